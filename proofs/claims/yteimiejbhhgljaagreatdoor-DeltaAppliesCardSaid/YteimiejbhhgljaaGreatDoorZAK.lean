import Derived.Test.YteimiejbhhgljaaGreatDoorZAJ
import Derived.RangeFuncRecord
import Derived.WalkKit
import Derived.TacticsIn
import Derived.BigFrameIn
import Derived.Maps.Keyed
import Derived.Carry
import Derived.Maps.RangeRun
set_option linter.unusedVariables false
set_option linter.unusedSimpArgs false
set_option maxHeartbeats 0
set_option maxRecDepth 100000
open Array renaming ext->aFB,ext'->bAQ,getD_eq_getD_getElem?->aD,getElem?_eq_getElem->aP,getElem?_eq_some_iff->cZ,getElem?_setIfInBounds_ne->kR,getElem?_toList->bA,length_toList->vM,replicate_succ->bLK,replicate_zero->bLJ
open Bool renaming and_eq_false_iff->iA,and_eq_true->aC,eq_iff_iff->aY,false_eq_true->aO,not_eq_true->aHU,not_eq_true'->aT,or_eq_true->bH,true_eq_false->bM
open Int renaming toNat_natCast->gX
open Go.IntKind renaming i64->aN
open List renaming Pairwise->oG,Perm->fV,append_assoc->bL,append_nil->aR,cons_append->dQ,eq_nil_of_length_eq_zero->fL,ext_getElem?->kP,filter_append->KA,filter_congr->bAO,filter_cons->bKI,filter_eq_self->vK,getD_eq_getElem?_getD->bD,getElem?_append_left->fU,getElem?_append_right->gQ,getElem?_cons_succ->eW,getElem?_eq_getElem->aE,getElem?_eq_none->cI,getElem?_eq_some_iff->aG,getElem?_map->aQ,getElem?_toArray->cH,getElem_mem->bKH,length_append->bQ,length_cons->lZ,length_map->bP,map->jL,map_append->aH,map_cons->bG,map_map->jD,map_nil->aV,mem_append->cD,mem_cons->jK,mem_filter->jY,mem_iff_getElem->sM,mem_map->cL,mem_of_getElem?->jC,mem_range->dO,mem_singleton->gZ,nil_append->cN,pairwise_append->aAB,pairwise_iff_getElem->lN,pairwise_lt_range->a6D,pairwise_map->pV,range->aM,range_succ->CI,size_toArray->gW
open Nat renaming add_assoc->fS,add_comm->bFX,add_mul->cX,add_sub_cancel->rN,add_sub_cancel_left->iW,add_zero->jX,le_refl->aF,le_succ->PH,le_trans->DS,lt_irrefl->tC,lt_of_lt_of_le->oE,lt_succ_self->dC,lt_trichotomy->mH,mul_one->bAM,not_lt_zero->bJ,one_mul->aMJ,sub_self->PG,zero_add->dV,zero_le->aJ,zero_mul->tM
open Option renaming bind_eq_some_iff->bX,isSome_iff_exists->fK,map_eq_none_iff->dG,map_eq_some_iff->aB,map_none->oC,map_some->cB
open Go.Result renaming andThen->aEZ
open Go.Proofs.Tryz renaming prog->aA
open Go.Value renaming int->bC
section
namespace Go.Proofs.T
open Go Go.AM Go.Proofs Go.RowKit
attribute [local go_sem] Oper.semAt_some
noncomputable def ZE:Code:=match Tryz.f272.body with
 |some (.seq _ (.seq _ (.seq (.seq _ (.block _ (.rangeFunc _ _ _ b))) _)))=>b
 |_=> .skip
noncomputable def UO(fn:FuncId)(sl:Value)(g:Int)(N:Nat)(st:LoopState)(pend:Option Code):Loop:=
 {state:=st,pending:=pend,fn,tmps:= #[sl,.int .i64 g,undef,undef,.int .i64 0,.pointer (some ⟨N,0,none⟩),sl,.int .i64 g,.func (.func 315) #[] #[.pointer (some ⟨N+2,0,none⟩),.pointer (some ⟨N+1,0,none⟩)],undef,undef,undef,undef],params:= #[9],assign:= .skip,body:=ZE,defers:=N+3}
structure DMid (fn:FuncId) (sl:Value) (g:Int) (w:World) (x y:Int) (W:World):Prop where
 c:W.cell? ⟨w.heap.size,0,none⟩=some (.int .i64 x)
 f:W.frozen? ⟨w.heap.size,0,none⟩=false
 cl:W.cell? ⟨w.heap.size+1,0,none⟩=some sl
 cg:W.cell? ⟨w.heap.size+2,0,none⟩=some (.int .i64 y)
 fg:W.frozen? ⟨w.heap.size+2,0,none⟩=false
 L:W.heap[w.heap.size+4]? =some (.loop (UO fn sl g w.heap.size .ready none))
 K:W.heap[w.heap.size+3]? =some (.deferred (some []))
 b:Below w.heap.size w W
theorem BS{B:Nat}{w W:World}(h:Below B w W){r:Nat}(hr:B<=r)(o:Obj):Below B w (W.putObj r o):=
 ⟨h.os,h.tape,h.output,by rw[World.putObj_size];exact h.size,λ k hk=>(World.putObj_heap_other oO).trans (h.block k hk)⟩
theorem aSU(F:Fence)(m:Nat)(fn:FuncId)(hfn:F.fn fn)(sl:Value)(g:Int)(w:World)(x y:Int)(hx: -1<=x)(hx2:x<=100000)(W:World)(h:DMid fn sl g w x y W):
 RoundIn F m aA (w.heap.size+4) fn #[sl,.int .i64 g,undef,undef,.int .i64 0,.pointer (some ⟨w.heap.size,0,none⟩),sl,.int .i64 g,.func (.func 315) #[] #[.pointer (some ⟨w.heap.size+2,0,none⟩),.pointer (some ⟨w.heap.size+1,0,none⟩)],.int .i64 y,undef,undef,undef] .skip ZE W
  λ e W'=>e= .returned (.bool true)/\DMid fn sl g w (x+1) y W':=by
 refine roundIn_of_wpIn hfn ?_;have hl:w.heap.size+4<W.heap.size:=(cZ.1 h.L).1;have hbr:=run_beginRound (P:=aA) h.L rfl;obtain⟨W2,hW2⟩:∃W2,W.putObj (w.heap.size+4) (.loop {UO fn sl g w.heap.size .ready none with state:= .busy})=W2:=⟨_,rfl⟩;rw[hW2]at hbr;have hk:∀k,k≠w.heap.size+4->W2.heap[k]? =W.heap[k]? :=λ k hk=>by rw[<-hW2];exact World.putObj_heap_other hk
 have hc2:W2.cell? ⟨w.heap.size,0,none⟩=some (.int .i64 x):=(World.cell?_of_block (hk w.heap.size oO)).trans h.c;have hf2:W2.frozen? ⟨w.heap.size,0,none⟩=false:=(World.frozen?_of_block (hk w.heap.size oO)).trans h.f;have hL2:W2.heap[w.heap.size+4]? =some (.loop {UO fn sl g w.heap.size .ready none with state:= .busy}):=by rw[<-hW2];exact World.putObj_heap_same hl
 have hb2:Below w.heap.size w W2:=by rw[<-hW2];exact BS h.b oO _
 clear hW2;have hwr:wrap64 (x+1)=x+1:=by unfold wrap64;omega
 gi_wp2
 conv in ZE=>whnf
 gi_wp2
 have hk3:∀k,k≠w.heap.size->(W2.setCell ⟨w.heap.size,0,none⟩ (.int .i64 (x+1))).heap[k]? =W2.heap[k]? :=λ k hk=>Below.heap_setCell W2 ⟨w.heap.size,0,none⟩ _ k hk;have hL3:=(hk3 (w.heap.size+4) oO).trans hL2;have hl3:=(cZ.1 hL3).1
 have hall:∀(o:Obj) (k:Nat),k≠w.heap.size->k≠w.heap.size+4->((W2.setCell ⟨w.heap.size,0,none⟩ (.int .i64 (x+1))).putObj (w.heap.size+4) o).heap[k]? =W.heap[k]? :=λ o k h1 h2=>
  (World.putObj_heap_other h2).trans ((hk3 k h1).trans (hk k h2))
 refine⟨_,_,run_endRound none hL3,rfl,?_,?_,?_,?_,?_,?_,?_,?_⟩;.exact(World.cell?_of_block (World.putObj_heap_other (k:=w.heap.size) oO)).trans (World.cell?_setCell_same' _ _ _ (by rw[hc2];rfl))
 .exact(World.frozen?_of_block (World.putObj_heap_other (k:=w.heap.size) oO)).trans (by rw[World.frozen?_setCell];exact hf2)
 .exact(World.cell?_of_block (hall _ (w.heap.size+1) oO oO)).trans h.cl
 .exact(World.cell?_of_block (hall _ (w.heap.size+2) oO oO)).trans h.cg
 .exact(World.frozen?_of_block (hall _ (w.heap.size+2) oO oO)).trans h.fg
 .exact World.putObj_heap_same hl3
 .exact(hall _ _ oO oO).trans h.K
 exact BS (hb2.setCell (p:=⟨w.heap.size,0,none⟩) (aF _) _) oO _
theorem aFL(par:Nat->Int):∀f g,sG par f g<=f
 |0,g=>by simp[sG]
 |f+1,g=>by
  rw[sG];split;.omega
  have:=aFL par f (par g).toNat;omega
structure Pars (w:World) (b o cap n:Nat) (par:Nat->Int):Prop where
 lt:b<w.heap.size
 at_:∀i,i<n->w.cell? ⟨b,o+i*2,none⟩=some (.int .i64 (par i))
noncomputable def dMu(N:Nat)(W:World):Nat:=match W.cell? ⟨N+2,0,none⟩with
 |some (.int _ y)=>y.toNat
 |_=>0
theorem Pars.get {w W:World}{b o cap n:Nat}{par:Nat->Int}(h:Pars w b o cap n par)(hb:Below w.heap.size w W)(i:Nat)(hi:i<n):W.cell? ⟨b,o+i*2,none⟩=some (.int .i64 (par i)):=
 (World.cell?_of_block (hb.block b h.lt)).trans (h.at_ i hi)
theorem a2J(F:Fence)(n:Nat)(hF:F.fn 315)(hro:F.round=none)(hn:1<=n)(fn:FuncId)(hfn:F.fn fn)(w:World)(b o cap N:Nat)(par:Nat->Int)(hp:Pars w b o cap N par)(g:Nat)(hg:g<N)(hN:N<=1000)(hv:∀j,1<=j->j<=g->0<=par j/\par j<j)
 (W:World) (h:DMid fn (.slice (some ⟨b,o,none⟩) N cap) g w (-1) g W):
 CallsIn F n aA 315 #[.func (.yield (w.heap.size+4)) #[] #[],.pointer (some ⟨w.heap.size+2,0,none⟩),.pointer (some ⟨w.heap.size+1,0,none⟩)] W λ e W'=>(∃v,e= .returned v)/\∃y,DMid fn (.slice (some ⟨b,o,none⟩) N cap) g w (sG par g g) y W':=by
 refine callsIn_of_wp Tryz.func315 rfl hF ?_ hro;simp only[Tryz.ntmps315,gW,lZ,List.length_nil,Nat.reduceAdd,Nat.reduceSub,bLK,bLJ,List.push_toArray,List.append_toArray,cN,dQ];refine wpIn_block ?_;refine wpIn_loop (λ a' W'=>∃(y:Nat) (x:Int) (x4 x5 x6 x7 x8 x9 x10 x11 x12 x13 x14 x15:Value),a'={tmps:= #[.func (.yield (w.heap.size+4)) #[] #[],.pointer (some ⟨w.heap.size+2,0,none⟩),.pointer (some ⟨w.heap.size+1,0,none⟩),undef,x4,x5,x6,x7,x8,x9,x10,x11,x12,x13,x14,x15],defers:=[]}/\y<=g/\ -1<=x/\x+1+sG par y y=sG par g g/\DMid fn (.slice (some ⟨b,o,none⟩) N cap) g w x y W') (λ _ W'=>dMu w.heap.size W') ⟨g, -1,_,_,_,_,_,_,_,_,_,_,_,_,rfl,aF _,oO,oO,h⟩ ?_;rintro a' W' ⟨y,x,x4,x5,x6,x7,x8,x9,x10,x11,x12,x13,x14,x15,rfl,hy,hx,hs,h'⟩;have hpd:sG par g g<=1000:=DS (aFL par g g) oO;have hy1:(Instr.yield (w.heap.size+4) #[.int .i64 (y:Int)]).run aA W'= .ok (.round (w.heap.size+4) fn #[.slice (some ⟨b,o,none⟩) N cap,.int .i64 (g:Int),undef,undef,.int .i64 0,.pointer (some ⟨w.heap.size,0,none⟩),.slice (some ⟨b,o,none⟩) N cap,.int .i64 (g:Int),.func (.func 315) #[] #[.pointer (some ⟨w.heap.size+2,0,none⟩),.pointer (some ⟨w.heap.size+1,0,none⟩)],.int .i64 (y:Int),undef,undef,undef] .skip ZE) W':=by simpa [UO]using run_yield (P:=aA) (args:= #[.int .i64 (y:Int)]) h'.L rfl
 have hmu:dMu w.heap.size W'=y:=by unfold dMu;rw[h'.cg];simp
 have hcg:=h'.cg;have hcl:=h'.cl;by_cases hy0:0<(y:Int)
 .gi_wp2
  refine(aSU F (n-1) fn hfn _ g w x y hx oO W' h').mono ?_;rintro e W1 ⟨rfl,h1⟩;have hcg:=h1.cg;have hfg:=h1.fg;have hcl:=h1.cl;have hpar:=hp.get h1.b y oO;gi_wp2
  obtain⟨q,hq⟩:∃q:Nat,par y=q:=⟨(par y).toNat,by have:=hv y oO hy;omega⟩;have hv':=hv y oO hy;rw[hq]at hv'⊢
  have hk:∀k,k≠w.heap.size+2->(W1.setCell ⟨w.heap.size+2,0,none⟩ (.int .i64 (q:Int))).heap[k]? =W1.heap[k]? :=λ k hk=>Below.heap_setCell W1 ⟨w.heap.size+2,0,none⟩ _ k hk;have hc':(W1.setCell ⟨w.heap.size+2,0,none⟩ (.int .i64 (q:Int))).cell? ⟨w.heap.size+2,0,none⟩=some (.int .i64 (q:Int)):=World.cell?_setCell_same' _ _ _ (by rw[hcg];rfl);refine⟨⟨q,x+1,_,_,_,_,_,_,_,_,_,_,_,_,rfl,oO,oO,?_,?_⟩,?_⟩;.obtain⟨y',hy'⟩:∃y',y=y'+1:=⟨y-1,oO⟩;subst hy';rw[sG,if_neg oO,hq,gX,QB y' q oO (λ j h1 h2=>hv j h1 oO)]at hs;omega
  .refine⟨?_,?_,?_,hc',?_,?_,?_,?_⟩;.exact(World.cell?_of_block (hk w.heap.size oO)).trans h1.c
   .exact(World.frozen?_of_block (hk w.heap.size oO)).trans h1.f
   .exact(World.cell?_of_block (hk (w.heap.size+1) oO)).trans h1.cl
   .rw[World.frozen?_setCell];exact h1.fg
   .exact(hk _ oO).trans h1.L
   .exact(hk _ oO).trans h1.K
   exact h1.b.setCell (p:=⟨w.heap.size+2,0,none⟩) (Nat.le_add_right _ _) _
  rw[hmu];unfold dMu;rw[hc'];simp only[gX];omega
 gi_wp2
 refine(aSU F (n-1) fn hfn _ g w x y hx oO W' h').mono ?_;rintro e W1 ⟨rfl,h1⟩;have hcg:=h1.cg;gi_wp2
 first|go_end0|go_ret
 obtain rfl:y=0:=oO;refine⟨⟨_,rfl⟩,(0:Nat),?_⟩;rw[sG]at hs;rw[<-hs];simpa using h1
theorem a6K(F:Fence)(n:Nat)(h83:F.fn 299)(hro:F.round=none)(ad:Option Addr)(N cap:Nat)(g:Int)(W:World):
 CallsIn F n aA 299 #[.slice ad N cap,.int .i64 g] W λ e W'=>e= .returned (.func (.func 315) #[] #[.pointer (some ⟨W.heap.size+1,0,none⟩),.pointer (some ⟨W.heap.size,0,none⟩)])/\∃t1 t2,W'=(W.alloc (.cells #[.slice ad N cap] t1)).alloc (.cells #[.int .i64 g] t2):=by
 refine callsIn_of_wp Tryz.func299 rfl h83 ?_ hro;simp only[Tryz.ntmps299,gW,lZ,List.length_nil,Nat.reduceAdd,Nat.reduceSub,bLK,bLJ,List.push_toArray,List.append_toArray,cN,dQ];gi_wp2
 first|go_end0|go_ret
 exact⟨rfl,_,_,rfl⟩
theorem aSP(F:Fence)(n:Nat)(h70:F.fn 272)(h83:F.fn 299)(h93:F.fn 315)(hro:F.round=none)(hn:2<=n)(w:World)(b o cap N:Nat)(par:Nat->Int)(hp:Pars w b o cap N par)(g:Nat)(hg:g<N)(hN:N<=1000)(hv:∀j,1<=j->j<=g->0<=par j/\par j<j):
 CallsIn F n aA 272 #[.slice (some ⟨b,o,none⟩) N cap,.int .i64 (g:Int)] w λ e W'=>e= .returned (.int .i64 (sG par g g:Nat))/\Below w.heap.size w W':=by
 refine callsIn_of_wp_marks Tryz.func272 rfl h70 ?_ hro;simp only[Tryz.ntmps272,gW,lZ,List.length_nil,Nat.reduceAdd,Nat.reduceSub,bLK,bLJ,List.push_toArray,List.append_toArray,cN,dQ];gi_wp2
 refine⟨λ _=>oO,(a6K F (n-1) h83 hro _ _ _ g _).mono ?_⟩;rintro e W0 ⟨rfl,t1,t2,hW0⟩;simp only[World.size_alloc]at hW0⊢
 have hs0:W0.heap.size=w.heap.size+3:=by rw[hW0];simp
 have hb0:Below w.heap.size w W0:=by rw[hW0];exact(((Below.refl _ w).alloc (aF _) _).alloc sS _).alloc (by simp;omega) _
 have hh:W0.heap[w.heap.size]? =some (.cells #[.int .i64 (-1)] 3)/\W0.heap[w.heap.size+1]? =some (.cells #[.slice (some ⟨b,o,none⟩) N cap] t1)/\W0.heap[w.heap.size+2]? =some (.cells #[.int .i64 (g:Int)] t2):=by
  rw[hW0];refine⟨?_,?_,?_⟩;.exact(Below.heap_alloc _ _ _ (by simp;omega)).trans ((Below.heap_alloc _ _ _ sS).trans (World.alloc_heap_new w _))
  .refine(Below.heap_alloc _ _ _ sS).trans ?_;have:=World.alloc_heap_new (w.alloc (.cells #[.int .i64 (-1)] 3)) (.cells #[.slice (some ⟨b,o,none⟩) N cap] t1);rwa [World.size_alloc]at this
  have:=World.alloc_heap_new ((w.alloc (.cells #[.int .i64 (-1)] 3)).alloc (.cells #[.slice (some ⟨b,o,none⟩) N cap] t1)) (.cells #[.int .i64 (g:Int)] t2);rwa [World.size_alloc,World.size_alloc]at this
 clear hW0;obtain⟨hh0,hh1,hh2⟩:=hh;gi_wp2
 refine wpIn_rangeFunc ?_;intro fn hfn;rw[hro];obtain⟨W1,hW1⟩:∃W1,(W0.alloc (.deferred (some []))).alloc (.loop (UO fn (.slice (some ⟨b,o,none⟩) N cap) g w.heap.size .ready none))=W1:=⟨_,rfl⟩;have hold:∀k,k<W0.heap.size->W1.heap[k]? =W0.heap[k]? :=λ k hk=>by rw[<-hW1];exact(Below.heap_alloc _ _ k (by simp;omega)).trans (Below.heap_alloc _ _ k hk)
 have hM:DMid fn (.slice (some ⟨b,o,none⟩) N cap) g w (-1) g W1:=by
  have e0:=(hold w.heap.size oO).trans hh0;have e1:=(hold (w.heap.size+1) oO).trans hh1;have e2:=(hold (w.heap.size+2) oO).trans hh2;refine⟨by simp[World.cell?,e0],by simp[World.frozen?,e0],by simp[World.cell?,e1],by simp[World.cell?,e2],by simp[World.frozen?,e2],?_,?_,?_⟩;.rw[<-hW1];have:=World.alloc_heap_new (W0.alloc (.deferred (some []))) (.loop (UO fn (.slice (some ⟨b,o,none⟩) N cap) g w.heap.size .ready none));rwa [World.size_alloc,hs0]at this
  .rw[<-hW1,<-hs0];exact(Below.heap_alloc _ _ _ sS).trans (World.alloc_heap_new W0 _)
  rw[<-hW1];exact(hb0.alloc oO _).alloc (by simp;omega) _
 refine⟨w.heap.size+4,[{target:= .collected (w.heap.size+3),args:= #[]}],W1,{target:= .fn (.func 315) #[.pointer (some ⟨w.heap.size+2,0,none⟩),.pointer (some ⟨w.heap.size+1,0,none⟩)],args:= #[.func (.yield (w.heap.size+4)) #[] #[]]},W1,315,
  #[.func (.yield (w.heap.size+4)) #[] #[],.pointer (some ⟨w.heap.size+2,0,none⟩),.pointer (some ⟨w.heap.size+1,0,none⟩)],W1,?_,?_,?_,?_,λ _=>oO,?_⟩
 .have:=run_enterLoop_outer (P:=aA) (w:=W0) fn (UO fn (.slice (some ⟨b,o,none⟩) N cap) g w.heap.size .ready none).tmps #[9] .skip ZE;rw[hs0]at this;rw[<-hW1];exact this
 .simp[resolve,go_sem]
 .intro f' hf';simp[Target.leads]at hf';subst hf';exact h93
 .simp[invoke,go_sem]
 refine(a2J F (n-1) h93 hro oO fn hfn w b o cap N par hp g hg hN hv W1 hM).mono ?_;rintro e W2 ⟨⟨v,rfl⟩,y,h2⟩;have hend:=run_endLoop (P:=aA) h2.L (by simp[UO]);obtain⟨W3,hW3⟩:∃W3,W2.putObj (w.heap.size+4) (.loop {UO fn (.slice (some ⟨b,o,none⟩) N cap) g w.heap.size .ready none with state:= .exhausted})=W3:=⟨_,rfl⟩;rw[hW3]at hend;have hc3:W3.cell? ⟨w.heap.size,0,none⟩=some (.int .i64 (sG par g g:Nat)):=by rw[<-hW3];exact(World.cell?_of_block (World.putObj_heap_other (k:=w.heap.size) oO)).trans h2.c
 have hK3:W3.heap[w.heap.size+3]? =some (.deferred (some [])):=by rw[<-hW3];exact(World.putObj_heap_other oO).trans h2.K
 have hb3:Below w.heap.size w W3:=by rw[<-hW3];exact BS h2.b oO _
 clear hW3;refine⟨none,W3,hend,?_⟩;gi_wp2
 refine⟨sS,.inl ⟨_,_,rfl,run_takeDeferred hK3,?_⟩⟩;exact⟨_,results_tmp rfl _ _ _,rfl,BS hb3 oO _⟩
theorem YZ(w:World)(b o cap N:Nat)(par:Nat->Int)(hp:Pars w b o cap N par)(g:Nat)(hg:g<N)(hN:N<=1000)(hv:∀j,1<=j->j<=g->0<=par j/\par j<j):
 Calls aA 272 #[.slice (some ⟨b,o,none⟩) N cap,.int .i64 (g:Int)] w λ e W'=>e= .returned (.int .i64 (sG par g g:Nat))/\Below w.heap.size w W':=
 callsIn_wide.1 (aSP Fence.wide 2 trivial trivial trivial rfl (aF _) w b o cap N par hp g hg hN hv)
theorem OL{Γ:List (Nat×List AVal)}{w w':World}{G:Nat->Prop}{ρ:cM}{A:bU}{k:Nat}(hr:HRel Γ w G ρ (bK [] A))(h:Below w.heap.size w w'):
 HRel Γ w' G ρ (bK [] (jA A k k))/\Step (kN k) w G ρ w' G ρ:=by have hn:∀id,ρ id=none:=λ id=>hr.dom id rfl;have hst:Step (kN k) w G ρ w' G ρ:=⟨h.size,λ b hb _=>h.block b hb,λ b hb=>shp_of (h.block b hb),λ _ h=>h,λ _ h=> .inl h,λ _ h=> .inl h,λ _ _=> .inr rfl,h.os,h.tape,h.output⟩;refine⟨⟨λ id _=>hn id,λ id B A' hid=>by simp[bK,AM.look]at hid,hr.inj,λ b hb=>oE (hr.ro b hb) h.size,?_⟩,hst⟩;exact GW hr hst
theorem UL(Γ:List (Nat×List AVal)):FU Γ:=by
 intro s n g hg hn hv k A hA w G ρ cargs hr hvs;obtain⟨hlen,hvv⟩:=hvs;have h0:=hvv 0 _ rfl;have h1:=hvv 1 _ rfl
 have hc2:cargs= #[cargs.getD 0 undef,cargs.getD 1 undef]:=by
  have hsz:cargs.size=2:=hlen.symm;apply aFB;.simp[hsz]
  intro i hi1 hi2
  match i with
  |0=>simp[Array.getD,hsz]
  |1=>simp[Array.getD,hsz]
  |i+2=>omega
 have e1:cargs.getD 1 undef= .int .i64 (g:Int):=by generalize cargs.getD 1 undef=x at h1;cases h1;rfl
 obtain⟨b,o,cap,e0,hp⟩:∃b o cap,cargs.getD 0 undef= .slice (some ⟨b,o,none⟩) n cap/\Pars w b o cap n s.par:=by
  generalize cargs.getD 0 undef=x at h0
  cases h0 with
  |rd0=>omega
  |rd gv hb hcap hnm hl hc hv'=>refine⟨_,_,_,rfl,hr.ro _ hb,λ i hi=>?_⟩;have h2:=hc i 0 _ hi rfl;have h3:=hv' i 0 _ hi rfl;rw[jX]at h2;rw[h2];generalize gv i 0=z at h3;cases h3;rfl
 rw[hc2,e0,e1];refine(YZ w b o cap n s.par hp g hg hn hv).mono ?_;rintro e w' ⟨rfl,hbl⟩;obtain⟨q1,q2⟩:=OL (k:=k) hr hbl;exact⟨_,G,ρ,k,_,[],rfl,⟨rfl,rfl,rfl⟩,aF _,q1,.lit,q2⟩
end Go.Proofs.T
end
section
namespace Go.Proofs.T
open Go Go.AM Go.Proofs
variable{Γ:List (Nat×List AVal)}
structure Kinds (s:St):Prop where
 wf:Wf s
 v0:∀g c,0<=(s.sp g c).v
theorem NI(s:St)(hk:Kinds s)(h12:s.ns<=12)(hr:gE s=true):(bW s).Perm (yS s):=by
 unfold bW yS;rw[if_neg (by rw[hr];simp),BB];by_cases h1:0<(fZ s).length;.rw[if_pos h1,if_pos h1]
 rw[if_neg h1,if_neg h1];obtain⟨hp,hpar⟩:=aBF h12 hr oO;have hpp:=aBJ s hk.wf hk.v0 hp;have hpl:(jG s).length=(rC s).length:=hpp.length_eq;rw[hpl];by_cases h2:0<(rC s).length;.rw[if_pos h2,if_pos h2];exact hpp
 rw[if_neg h2,if_neg h2];refine YN s (floorOk s h12 hr oO ?_);unfold rC at h2;simp only[bQ]at h2;omega
theorem ZI(s:St)(hq:PreOk s)(hk:Kinds s):Pure aA Γ 113 [.agg s.cells] (rows 3 ((bW s).map Flt.row)):=by
 refine check (UL Γ) s hq (bW s) (λ h=>?_) (λ h1 h2 h3=>?_) (λ h=>?_) (λ h=>?_) (λ h=>?_);.rw[bW,<-DI,if_pos h]
 .rw[DI]at h1;rw[BB]at h2;refine floorOk s hq.n12 h1 h2 ?_;unfold rC at h3;simp only[bQ]at h3;omega
 .rw[DI]at h;intro f hf;exact aLL s hq.sm f ((NI s hk hq.n12 h).mem_iff.2 hf)
 .rw[DI]at h;exact NI s hk hq.n12 h
 exact(OX s).imp λ {x y} hxy=>(NK y x).2 hxy
theorem aIP{s:St}(h:VM s):PreOk s:=by obtain⟨h1,h2,h3,h4,h5,h6,h7⟩:=h;exact⟨⟨oO,oO,oO,oO,oO,λ g hg=>by have:=h7 g hg;omega⟩,h6,h7⟩
theorem NH(s:St)(hq:PreOk s)(hk:Kinds s):Pure aA Γ 112 [.agg s.cells] (rows 3 ((bW s).map Flt.row)):=
 aLJ s hq.sm hk.wf λ h1 h2=>aBF hq.n12 h1 h2
theorem NJ(s:St)(hq:PreOk s):(bW s).length<=100000:=by
 unfold bW;by_cases hr:gE s=false;.rw[if_pos hr];simp
 rw[if_neg hr];have hr':gE s=true:=by simpa using hr
 have hc:=(eY hr').1.2.1;have:=hq.sm.nk;have:=hq.sm.nt;have:=hq.n12;split;.have:=CR s hq.n12;rw[BB]at this;omega
 split
 .unfold jG;simp only[bQ];have h1:=cJ (f:=gO s) (m:=1) (λ i=>dM _ _) s.nk;have h2:=cJ (f:=AR s) (m:=s.nt) (λ r=>by have:=cJ (f:=oJ s r) (m:=1) (λ i=>dM _ _) s.nt;unfold AR;omega) 7
  have h3:=mZ (f:=vB s) (m:=12) s.ns (λ g hg=>by
   have:=cJ (f:=qX s g) (m:=1) (λ i=>dM _ _) (s.nsp g);have:=hq.p12 g hg;unfold vB;split;.simp
   omega)
  have h4:=cJ (f:=kG s) (m:=1) (λ i=>dM _ _) s.cpus.toNat;have h5:=cJ (f:=lO s) (m:=1) (λ i=>dM _ _) s.cpus.toNat;omega
 have h1:=cJ (f:=EP s) (m:=64) (λ g=>by have:=cJ (f:=kV s g) (m:=1) (λ i=>dM _ _) s.cpus.toNat;unfold EP;omega) s.ns;unfold nX;omega
def pf(s:St)(i:Nat):List AVal:=[.lit (.int .i64 (s.par i))]
attribute [go_sem] pf
def XB(s:St)(i:Nat):List (List AVal):=(aM i).map (pf s)
theorem aJP(s:St):XB s 0=[]:=rfl
theorem aJQ(s:St)(i:Nat):XB s (i+1)=XB s i++[pf s i]:=CT
theorem XA(s:St)(i:Nat):(XB s i).length=i:=by simp[XB]
attribute [go_sem] XA
theorem aFM(s:St)(n:Nat)(hn:n<=1000):Pure aA Γ 115 [.rd 2 n (gf s)] (.rd 1 n (pf s)):=by
 refine aZ Tryz.func115 rfl 19 rfl bB rfl λ k=>?_;have kp:=fI k [0,2,3,5,6,7,8,9];refine wl ?_;refine aU (zs ?_);refine bE (X:=Nat) rfl [0,2,3,5,6,7,8,9] (k+1) (λ i=>[(8,i),(3,bV k (XB s i))]) (λ i=>cA k 1 (XB s i) []) (λ i=>i<=n) (λ i=>n-i) 0 ?_ (aJ _) ?_;.rw[aJP];refine rR ?_;apply zN;exact fW
 intro i hi;refine rR ?_;apply zN;refine wl ?_;refine dD ⟨λ ht=>zN ?_⟩ ⟨λ ht=>zN ?_⟩;.refine⟨i+1,oO,oO,?_⟩;rw[aJQ];refine rR ?_;apply zN;exact lM (k+3) k wL
 have hi':i=n:=oO;subst hi';refine DO rfl (id:=k) (s:=1) (l:=XB s i) 2 sL sL ?_;refine⟨_,rfl,?_⟩;rw[rows,XA];exact nQ _ _ _
theorem WL(n m:Nat)(f g:Nat->Int)(hn:n<=1000)(hm:m<=1000):Pure aA Γ 114 [.rd 1 n (λ i=>[(f i)]),.rd 1 m (λ i=>[(g i)])] (decide (n=m/\∀i,i<n->f i=g i)):=by
 refine aZ Tryz.func114 rfl 26 rfl bB rfl λ k=>?_;have kp:=fI k [0,1,4,5,10,12,13,14,24];refine wl ?_;refine dD ⟨λ ht=>zN ?_⟩ ⟨λ ht=>zN ?_⟩;.refine aX rfl ⟨_,rfl,aI ?_⟩;rw[decide_eq_false (by rintro⟨h1,_⟩;omega)]
 refine bE (X:=Nat) rfl [0,1,4,5,10,12,13,14,24] k (λ i=>[(13,i)]) (λ i=>[]) (λ i=>i<=n/\∀j,j<i->f j=g j) (λ i=>n-i) 0 ?_ ⟨aJ _,λ j hj=>absurd hj (bJ _)⟩ ?_;.refine rR ?_;apply zN;exact fW
 rintro i ⟨hi,hall⟩;refine rR ?_;apply zN;refine wl ?_;refine wM ⟨λ ht ht=>zN ?_⟩ ⟨λ ht ht=>zN ?_⟩ ⟨λ ht=>zN ?_⟩;.refine aX rfl ⟨_,rfl,aI ?_⟩;rw[decide_eq_false (by rintro⟨h1,h2⟩;have:=h2 i oO;omega)]
 .refine⟨i+1,⟨oO,λ j hj=>?_⟩,oO,?_⟩
  .by_cases he:j=i;.subst he;omega
   exact hall j oO
  refine rR ?_;apply zN;exact fW
 refine aX rfl ⟨_,rfl,aI ?_⟩;rw[decide_eq_true (by refine⟨oO,λ j hj=>hall j oO⟩)]
theorem nZ {us vs:List AVal}(h:VLes us vs):VLe (.tup us) (.tup vs):=λ w G ρ A cv hv=>by
 obtain⟨h1,h2⟩:=h.spec
 cases hv with
 |tup h3 h4=>refine .tup oO λ j v hj=>?_;have hlt:=(aG.1 hj).1;have hu:us[j]? =some us[j]:=aE oO;exact h2 j _ v hu hj _ _ _ _ _ (h4 j _ hu)
def xZ(a b:St)(i:Nat):Bool:=decide (a.cpus=b.cpus/\a.credit=b.credit/\a.ng=b.ng/\∀g,g<i->a.par g=b.par g)
def nD(a b:St)(c:Nat):List Flt:=gJ (decide (b.clk c<a.clk c)) ⟨15,(c:Int),0⟩
def lH(a b:St)(g c:Nat):List Flt:=gJ (decide ((b.sp g c).floor<(a.sp g c).floor)) ⟨16,(g:Int),(c:Int)⟩
def uH(a b:St)(g:Nat):List Flt:=bF (lH a b g) (a.nsp g)
def oM(a b:St):List Flt:=bF (nD a b) a.nk++bF (uH a b) a.ns
def pI(a b:St):Prop:=0<(bW a).length\/0<(bW b).length
instance (a b:St):Decidable (pI a b):=by unfold pI;infer_instance
def kE(a b:St):List Flt:=if pI a b then []else if xZ a b a.ng=false then [⟨17,0,0⟩]else oM a b
def mU(a b:St):Int:=if pI a b then 320 else 0
theorem lV{s:St}(h:(bW s).length=0):gE s=true/\(fZ s).length=0:=by
 unfold bW at h;by_cases h1:gE s=false;.rw[if_pos h1]at h;simp at h
 rw[if_neg h1]at h;refine⟨by simpa using h1,?_⟩;split at h<;>omega
structure Alike (a b:St):Prop where
 nk:b.nk=a.nk
 ns:b.ns=a.ns
 nsp:∀g,g<a.ns->b.nsp g=a.nsp g
theorem FG{a b:St}(ha:(bW a).length=0)(hb:(bW b).length=0)(hal:xZ a b a.ng=true):Alike a b:=by obtain⟨_,ha⟩:=lV ha;obtain⟨_,hb⟩:=lV hb;obtain⟨h1,h2,h3,h4⟩:=shapes_nil ha;obtain⟨k1,k2,k3,k4⟩:=shapes_nil hb;simp only[xZ,dTt]at hal;obtain⟨e1,_,e3,_⟩:=hal;exact⟨oO,oO,λ g hg=>by have:=h4 g hg;have:=k4 g oO;omega⟩
theorem aBT{a b:St}(hq:PreOk a):(oM a b).length<=2000:=by have h1:=cJ (f:=nD a b) (m:=1) (λ i=>dM _ _) a.nk;have h2:=mZ (f:=uH a b) (m:=12) a.ns (λ g hg=>by have:=cJ (f:=lH a b g) (m:=1) (λ i=>dM _ _) (a.nsp g);have:=hq.p12 g hg;unfold uH;omega);have:=hq.sm.nk;have:=hq.n12;unfold oM;rw[bQ];omega
theorem aNM(a b:St)(hq:PreOk a)(hq':PreOk b)(hk:Kinds a)(hk':Kinds b):Pure aA Γ 49 [.agg a.cells,.agg b.cells] (.tup [rows 3 ((kE a b).map Flt.row),(mU a b)]):=by
 obtain⟨⟨hng,hnk,hnu,hnt,hns,hnsp⟩,h12,hp12⟩:=id hq;obtain⟨⟨hng',hnk',hnu',hnt',hns',hnsp'⟩,h12',hp12'⟩:=id hq';refine aZ Tryz.func49 rfl 145 rfl bB rfl λ k=>?_;obtain⟨R,eR⟩:∃R,R=(kE a b).map Flt.row:=⟨_,rfl⟩;obtain⟨E,eE⟩:∃E,E=mU a b:=⟨_,rfl⟩;rw[<-eR,<-eE];have kp:=fI k [0,1,2,3,4,5,6,7,8,9,10,11,21,57,76,83,96,106,116,137];refine wl ?_<;>and_intros<;>first|exact iH|(apply zM;(repeat intro ht);apply zM;(repeat intro hg);apply zM)
 refine cl [.ret (.rd 3 (bW a).length (λ j=>((bW a).map Flt.row).getD j [])),.ret (.rd 3 (bW b).length (λ j=>((bW b).map Flt.row).getD j []))] ?_<;>and_intros<;>first|exact iH|(apply zM;(repeat intro ht);apply zM;(repeat intro hg);apply zM)
 .have h:=NH (Γ:=Γ) a hq hk;rw[rows,bP]at h;exact h
 .have h:=NH (Γ:=Γ) b hq' hk';rw[rows,bP]at h;exact h
 .have ha:(bW a).length=0:=oO;refine gA rfl _ rfl (λ ht=>?_) (λ hf=>?_)
  .have hbad:pI a b:= .inr (by simp only[dTt]at ht;omega);refine wl ?_<;>and_intros<;>first|exact iH|(apply zM;(repeat intro ht);apply zM;(repeat intro hg);apply zM)
   refine aX rfl ⟨_,rfl,?_⟩;rw[eR,eE,kE,mU,if_pos hbad,if_pos hbad];exact nZ (.cons (VLe.nil _ _) (.cons (aK _) .nil))
  have hb:(bW b).length=0:=by simp only[dFn]at hf;omega
  have hnb:¬pI a b:=by unfold pI;omega
  have hE:E=0:=by rw[eE,mU,if_neg hnb]
  have hRr:R=(if xZ a b a.ng=false then [⟨17,0,0⟩]else oM a b).map Flt.row:=by rw[eR,kE,if_neg hnb]
  clear eR eE;subst hE;refine fD rfl ?_;refine sT ?_;refine yU (X:=Bool) rfl [0,1,2,3,4,5,6,7,8,9,10,11,21,57,76,83,96,106,116,137] (k+2) (λ x=>[(6,x)]) (λ x=>[(k+1,⟨7,true,[b.cells]⟩),(k,⟨7,true,[a.cells]⟩)]) (λ x=>x=xZ a b 0) ?_ ?_
  .refine wl ?_<;>and_intros<;>first|exact iH|(apply zM;(repeat intro ht);apply zM;(repeat intro hg);apply zM)
   .refine⟨((a.ng:Int)==(b.ng:Int)),?_,?_⟩;.rw[aY,beq_iff_eq,xZ,dTt];exact⟨λ h=>⟨by assumption,by assumption,oO,λ g hg=>absurd hg (bJ _)⟩,λ h=>oO⟩
    exact fW
   .refine⟨false,?_,?_⟩;.rw[xZ,decide_eq_false];rintro⟨h1,h2,_⟩;contradiction
    exact fW
   refine⟨false,?_,?_⟩;.rw[xZ,decide_eq_false];rintro⟨h1,h2,_⟩;contradiction
   exact fW
  rintro x rfl;refine rR ?_<;>first|exact iH|apply zN
  refine wl ?_<;>and_intros<;>first|exact iH|(apply zM;(repeat intro ht);apply zM;(repeat intro hg);apply zM)
  refine bE (X:=Nat) rfl [0,1,2,3,4,5,6,7,8,9,10,11,21,57,76,83,96,106,116,137] (k+2) (λ i=>[(7,i),(6,(xZ a b i))]) (λ i=>[(k+1,⟨7,true,[b.cells]⟩),(k,⟨7,true,[a.cells]⟩)]) (λ i=>i<=a.ng) (λ i=>a.ng-i) 0 ?_ (aJ _) ?_
  .refine rR ?_<;>first|exact iH|apply zN
   exact fW
  intro i hi;refine rR ?_<;>first|exact iH|apply zN
  by_cases hal:xZ a b i=true
  .have hal':=hal;rw[xZ,dTt]at hal';obtain⟨e1,e2,e3,e4⟩:=hal';have uU:= @hal;refine wl ?_<;>and_intros<;>first|exact iH|(apply zM;(repeat intro ht);apply zM;(repeat intro hg);apply zM)
   .refine⟨i+1,oO,oO,?_⟩
    have hx:xZ a b (i+1)=(a.par i==b.par i):=by
     rw[aY,beq_iff_eq,xZ,dTt]
     exact⟨λ h=>h.2.2.2 i oO,λ h=>⟨e1,e2,e3,λ g hg=>by
      by_cases he:g=i;.subst he;exact h
      exact e4 g oO⟩⟩
    rw[hx];refine rR ?_<;>first|exact iH|apply zN
    (have uU:= @hal;exact oZ)
   have hin:i=a.ng:=oO;subst hin;have hall:xZ a b a.ng=true:=hal;rw[if_neg (by rw[hall];simp)]at hRr;obtain⟨gnk,gns,gnsp⟩:=FG ha hb hall;refine bE (X:=Nat) rfl [0,1,2,3,4,5,6,7,8,9,10,11,21,57,76,83,96,106,116,137] (k+3) (λ c=>[(9,c),(8,bV (k+2) ((bF (nD a b) c).map Flt.row))]) (λ c=>cA (k+2) 3 ((bF (nD a b) c).map Flt.row) [(k+1,⟨7,true,[b.cells]⟩),(k,⟨7,true,[a.cells]⟩)]) (λ c=>c<=a.nk) (λ c=>a.nk-c) 0 ?_ (aJ _) ?_
   .rw[dY,aV];have uU:=Go.AM.uU;refine rR ?_<;>first|exact iH|apply zN
    exact fW
   intro c hc;have hfl:=cJ (f:=nD a b) (m:=1) (λ c=>dM _ _) c;obtain⟨l1,e1,h1⟩:∃x,x=bF (nD a b) c/\x.length<=c:=⟨_,rfl,oO⟩;rw[<-e1];have hsucc:bF (nD a b) (c+1)=l1++nD a b c:=by rw[e1];rfl
   have uU:=Go.AM.uU;refine rR ?_<;>first|exact iH|apply zN
   refine wl ?_<;>and_intros<;>first|exact iH|(apply zM;(repeat intro ht);apply zM;(repeat intro hg);apply zM)
   .refine⟨c+1,oO,oO,?_⟩;rw[hsucc,show nD a b c=[⟨15,(c:Int),0⟩]by rw[nD,decide_eq_true oO];rfl];refine rR ?_<;>first|exact iH|apply zN
    exact lM (k+4) (k+2) wL
   .refine⟨c+1,oO,oO,?_⟩;rw[hsucc,show nD a b c=[]by rw[nD,decide_eq_false oO];rfl,aR];refine rR ?_<;>first|exact iH|apply zN
    exact fW
   have hcn:c=a.nk:=oO;subst hcn;clear hsucc hfl;refine bE (X:=Nat) rfl [0,1,2,3,4,5,6,7,8,9,10,11,21,57,76,83,96,106,116,137] (k+3) (λ g=>[(10,g),(8,bV (k+2) ((l1++bF (uH a b) g).map Flt.row))]) (λ g=>cA (k+2) 3 ((l1++bF (uH a b) g).map Flt.row) [(k+1,⟨7,true,[b.cells]⟩),(k,⟨7,true,[a.cells]⟩)]) (λ g=>g<=a.ns) (λ g=>a.ns-g) 0 ?_ (aJ _) ?_
   .rw[dY,aR];refine rR ?_<;>first|exact iH|apply zN
    exact fW
   intro g hg2;have hfl:=mZ (f:=uH a b) (m:=12) g (λ g' hg'=>by have:=cJ (f:=lH a b g') (m:=1) (λ i=>dM _ _) (a.nsp g');have:=hp12 g' oO;unfold uH;omega);obtain⟨l2,e2',h2⟩:∃x,x=l1++bF (uH a b) g/\x.length<=l1.length+g*12:=⟨_,rfl,by simp;omega⟩;rw[<-e2'];have hsucc2:l1++bF (uH a b) (g+1)=l2++bF (lH a b g) (a.nsp g):=by rw[e2',cY,bL];rfl
   refine rR ?_<;>first|exact iH|apply zN
   refine wl ?_<;>and_intros<;>first|exact iH|(apply zM;(repeat intro ht);apply zM;(repeat intro hg);apply zM)
   .have hpg:a.nsp g<=12:=hp12 g oO;have hpg':b.nsp g=a.nsp g:=gnsp g oO;refine bE (X:=Nat) rfl [0,1,2,3,4,5,6,7,8,9,10,11,21,57,76,83,96,106,116,137] (k+3) (λ c=>[(11,c),(8,bV (k+2) ((l2++bF (lH a b g) c).map Flt.row))]) (λ c=>cA (k+2) 3 ((l2++bF (lH a b g) c).map Flt.row) [(k+1,⟨7,true,[b.cells]⟩),(k,⟨7,true,[a.cells]⟩)]) (λ c=>c<=a.nsp g) (λ c=>a.nsp g-c) 0 ?_ (aJ _) ?_
    .rw[dY,aR];refine rR ?_<;>first|exact iH|apply zN
     exact fW
    intro c hc;have hfi:=cJ (f:=lH a b g) (m:=1) (λ i=>dM _ _) c;obtain⟨l3,e3',h3⟩:∃x,x=l2++bF (lH a b g) c/\x.length<=l2.length+c:=⟨_,rfl,by simp;omega⟩;rw[<-e3'];have hsucc3:l2++bF (lH a b g) (c+1)=l3++lH a b g c:=by rw[e3',cY,bL]
    refine rR ?_<;>first|exact iH|apply zN
    refine wl ?_<;>and_intros<;>first|exact iH|(apply zM;(repeat intro ht);apply zM;(repeat intro hg);apply zM)
    .refine⟨c+1,oO,oO,?_⟩;rw[hsucc3,show lH a b g c=[⟨16,(g:Int),(c:Int)⟩]by rw[lH,decide_eq_true oO];rfl];refine rR ?_<;>first|exact iH|apply zN
     exact lM (k+4) (k+2) wL
    .refine⟨c+1,oO,oO,?_⟩;rw[hsucc3,show lH a b g c=[]by rw[lH,decide_eq_false oO];rfl,aR];refine rR ?_<;>first|exact iH|apply zN
     exact fW
    have hcn:c=a.nsp g:=oO;refine⟨g+1,oO,oO,?_⟩;rw[hsucc2,<-hcn,<-e3'];refine rR ?_<;>first|exact iH|apply zN
    exact fW
   have hgn:g=a.ns:=oO;subst hgn;have hl2:oM a b=l2:=by rw[e2',e1];rfl
   rw[hl2]at hRr;refine dI (kU (fr1:=[(4,bV (k+2) (l2.map Flt.row)),(5,.lit (.int .i64 0))]) (k1:=k+3) (H1:=cA (k+2) 3 (l2.map Flt.row) [(k+1,⟨7,true,[b.cells]⟩),(k,⟨7,true,[a.cells]⟩)]) wL) ?_;refine dI (xX (id:=k+2) (s:=3) (l:=l2.map Flt.row) 4 (rows 3 (l2.map Flt.row)) [(k+1,⟨7,true,[b.cells]⟩),(k,⟨7,true,[a.cells]⟩)] sL sL (aK _) sL sL) ?_;refine rR ?_<;>first|exact iH|apply zN
   refine aX rfl ⟨_,rfl,?_⟩;rw[hRr];exact aK _
  rw[aHU]at hal
  have hall:xZ a b a.ng=false:=by
   cases hx:xZ a b a.ng with
   |false=>rfl
   |true=>simp only[xZ,dTt,dFn]at hal hx;exact absurd ⟨hx.1,hx.2.1,hx.2.2.1,λ g hg=>hx.2.2.2 g oO⟩ hal
  rw[if_pos hall]at hRr;have uU:= @hal;refine wl ?_<;>and_intros<;>first|exact iH|(apply zM;(repeat intro ht);apply zM;(repeat intro hg);apply zM)
  refine dI (xX (id:=k+2) (s:=3) (l:=[Flt.row ⟨17,0,0⟩]) 4 (rows 3 [Flt.row ⟨17,0,0⟩]) [(k+1,⟨7,true,[b.cells]⟩),(k,⟨7,true,[a.cells]⟩)] sL sL (aK _) sL sL) ?_;have uU:=Go.AM.uU;refine rR ?_<;>first|exact iH|apply zN
  refine aX rfl ⟨_,rfl,?_⟩;rw[hRr];exact aK _
 have hbad:pI a b:= .inl oO;refine wl ?_<;>and_intros<;>first|exact iH|(apply zM;(repeat intro ht);apply zM;(repeat intro hg);apply zM)
 refine aX rfl ⟨_,rfl,?_⟩;rw[eR,eE,kE,mU,if_pos hbad,if_pos hbad];exact nZ (.cons (VLe.nil _ _) (.cons (aK _) .nil))
def zSt:St:=⟨0,0,0,λ _=>0,λ _=>0,0,λ _=>0,0,λ _=>0,0,λ _=>⟨0,0,0,0,0,false,0,0⟩,0,λ _=>0,λ _ _=>⟨0,0,0⟩⟩
theorem TF(a b:St):(oM a b).Pairwise leF:=by
 unfold oM;refine rH (uI λ i=>rfl) (kM (λ g _=>CS λ i=>rfl) λ i j hij _ x hx y hy=>?_) λ x hx y hy=>?_;.obtain⟨c,_,hx⟩:=mem_flats.1 hx;obtain⟨_,rfl⟩:=mem_iff1.1 hx;obtain⟨c',_,hy⟩:=mem_flats.1 hy;obtain⟨_,rfl⟩:=mem_iff1.1 hy;exact QT rfl (by simp only;omega)
 obtain⟨c,_,hx⟩:=mem_flats.1 hx;obtain⟨_,rfl⟩:=mem_iff1.1 hx;obtain⟨g,_,hy⟩:=mem_flats.1 hy;obtain⟨c',_,hy⟩:=mem_flats.1 hy;obtain⟨_,rfl⟩:=mem_iff1.1 hy;exact yY sS
theorem aPN(a b:St)(hs:a.Small):∀f∈oM a b,f.ok:=λ x hx=>by
 unfold oM at hx;rcases cD.1 hx with hx|hx;.obtain⟨c,hc,hx⟩:=mem_flats.1 hx;obtain⟨_,rfl⟩:=mem_iff1.1 hx;have:=hs.nk;unfold Flt.ok;simp only;omega
 obtain⟨g,hg,hx⟩:=mem_flats.1 hx;obtain⟨c,hc,hx⟩:=mem_flats.1 hx;obtain⟨_,rfl⟩:=mem_iff1.1 hx;have:=hs.ns;have:=hs.nsp g hg;unfold Flt.ok;simp only;omega
theorem step(a b:St)(hq:PreOk a)(hq':PreOk b)(hk:Kinds a)(hk':Kinds b):Pure aA Γ 51 [.agg a.cells,.agg b.cells] (.tup [rows 3 ((kE a b).map Flt.row),(mU a b)]):=by
 obtain⟨⟨hng,hnk,hnu,hnt,hns,hnsp⟩,h12,hp12⟩:=id hq;obtain⟨⟨hng',hnk',hnu',hnt',hns',hnsp'⟩,h12',hp12'⟩:=id hq';have hla:=NJ a hq;have hlb:=NJ b hq';refine aZ Tryz.func51 rfl 108 rfl bB rfl λ k=>?_;obtain⟨R,eR⟩:∃R,R=(kE a b).map Flt.row:=⟨_,rfl⟩;obtain⟨E,eE⟩:∃E,E=mU a b:=⟨_,rfl⟩;rw[<-eR,<-eE];have kp:=fI k [0,1,2,3,4,5,6,7,8,9,10,11,19,47,54,55,56,74,75,76,77,81,82,83,84];refine wl ?_;refine aU (zs ?_);refine dl [.ret (.rd 3 (bW a).length (λ j=>((bW a).map Flt.row).getD j [])),.ret (.rd 3 (bW b).length (λ j=>((bW b).map Flt.row).getD j []))] ?_;refine wM (zs ?_) (zs ?_) (zs ?_);.have h:=ZI (Γ:=Γ) a hq hk;rw[rows,bP]at h;exact h
 .have h:=ZI (Γ:=Γ) b hq' hk';rw[rows,bP]at h;exact h
 refine gA rfl _ rfl (λ ht=>?_) (λ hf=>?_)
 .have hbad:pI a b:=by simp only[dTt]at ht;unfold pI;omega
  refine wl ?_;refine aU (zs ?_);refine aX rfl ⟨_,rfl,?_⟩;rw[eR,eE,kE,mU,if_pos hbad,if_pos hbad];exact nZ (.cons (VLe.nil _ _) (.cons (aK _) .nil))
 have hnb:¬pI a b:=by simp only[dFn]at hf;unfold pI;omega
 have ha:(bW a).length=0:=by unfold pI at hnb;omega
 have hb:(bW b).length=0:=by unfold pI at hnb;omega
 have hE:E=0:=by rw[eE,mU,if_neg hnb]
 have hRr:R=(if xZ a b a.ng=false then [⟨17,0,0⟩]else oM a b).map Flt.row:=by rw[eR,kE,if_neg hnb]
 clear eR eE;subst hE;refine fD rfl ?_;refine sT ?_;refine bY rfl ?_;refine yU (X:=Bool) rfl [0,1,2,3,4,5,6,7,8,9,10,11,19,47,54,55,56,74,75,76,77,81,82,83,84] (k+2) (λ x=>[(47,x)]) (λ x=>[(k+1,⟨7,true,[b.cells]⟩),(k,⟨7,true,[a.cells]⟩)]) (λ x=>x= !(xZ a b a.ng)) ?_ ?_
 .refine dl [.ret (.rd 1 a.ng (pf a)),.ret (.rd 1 b.ng (pf b)),.ret (decide (a.ng=b.ng/\∀i,i<a.ng->a.par i=b.par i))] ?_;refine zq6 ⟨⟨λ hg hg=>⟨?_⟩⟩⟩ ⟨⟨λ hg hg=>⟨?_⟩⟩⟩ ⟨⟨λ hg hg=>⟨?_⟩⟩⟩ ⟨⟨λ hg hg=>⟨?_⟩⟩⟩ ⟨⟨λ hg hg=>⟨?_⟩⟩⟩ ⟨⟨λ hg=>⟨?_⟩⟩⟩;.exact aFM a a.ng hng
  .exact aFM b b.ng hng'
  .exact WL a.ng b.ng a.par b.par hng hng'
  .refine⟨!(decide (a.ng=b.ng/\∀i,i<a.ng->a.par i=b.par i)),?_,?_⟩;.congr 1;rw[aY,xZ,dTt,dTt];exact⟨λ h=>⟨by assumption,by assumption,h.1,h.2⟩,λ h=>h.2.2⟩
   exact fW
  .refine⟨true,?_,?_⟩
   .rw[xZ,decide_eq_false];.rfl
    rintro⟨h1,h2,_⟩;contradiction
   exact fW
  refine⟨true,?_,?_⟩
  .rw[xZ,decide_eq_false];.rfl
   rintro⟨h1,h2,_⟩;contradiction
  exact fW
 rintro x rfl;refine rR ?_;apply zN;refine gA rfl _ rfl (λ ht=>?_) (λ hf=>?_)
 .have hall:xZ a b a.ng=false:=by simpa using ht
  rw[if_pos hall]at hRr;refine wl ?_;refine aU (zs ?_);refine dI (xX (id:=k+2) (s:=3) (l:=[Flt.row ⟨17,0,0⟩]) 4 (rows 3 [Flt.row ⟨17,0,0⟩]) [(k+1,⟨7,true,[b.cells]⟩),(k,⟨7,true,[a.cells]⟩)] sL sL (aK _) sL sL) ?_;refine rR ?_;apply zN;refine aX rfl ⟨_,rfl,?_⟩;rw[hRr];exact aK _
 have hall:xZ a b a.ng=true:=by simpa using hf
 rw[if_neg (by rw[hall];simp)]at hRr;obtain⟨gnk,gns,gnsp⟩:=FG ha hb hall;refine wl ?_;refine aU (zs ?_);refine dI (Mv.row (k+2) (l:=[]) (mX (k+3) zSt []) (by simp-dsimp-implicitDefEqProofs only[go_sem,aH,Flt.row,eq_self,↓reduceIte];rfl) (.cons (aK _) (.cons (aK _) (.cons (VLe.nil _ _) (.cons (VLe.nil _ _) (.cons (VLe.nil _ _) (.cons (VLe.nil _ _) (.cons (VLe.nil _ _) (.cons (aK _) .nil)))))))) rfl) ?_;refine rR ?_;apply zN;refine dI (sE (k+2) (by simp-dsimp-implicitDefEqProofs only[go_sem,eq_self,↓reduceIte];rfl)) ?_;refine rR ?_;apply zN;refine bE (X:=Nat) rfl [0,1,2,3,4,5,6,7,8,9,10,11,19,47,54,55,56,74,75,76,77,81,82,83,84] (k+4) (λ i=>[(55,i)]) (λ i=>(k+2,⟨8,false,[mX (k+3) zSt (bF (nD a b) i)]⟩)::cA (k+3) 3 ((bF (nD a b) i).map Flt.row) [(k+1,⟨7,true,[b.cells]⟩),(k,⟨7,true,[a.cells]⟩)]) (λ i=>i<=a.nk) (λ i=>a.nk-i) 0 ?_ (aJ _) ?_;.rw[dY];refine rR ?_;apply zN;exact fW
 intro c hc;have hfl:=cJ (f:=nD a b) (m:=1) (λ c=>dM _ _) c;obtain⟨l1,e1,h1⟩:∃x,x=bF (nD a b) c/\x.length<=c:=⟨_,rfl,oO⟩;rw[<-e1];refine rR ?_;apply zN;refine wl ?_;refine dD ⟨λ ht=>zN ?_⟩ ⟨λ ht=>zN ?_⟩
 .obtain⟨l2,e_l2,h_l2⟩:∃x,x=l1++gJ (decide (b.clk c<a.clk c)) ⟨15,(c:Int),0⟩/\x.length<=(l1).length+1:=⟨_,rfl,iQ _ _ _⟩;refine lY [0,1,2,3,4,5,6,7,8,9,10,11,19,47,54,55,56,74,75,76,77,81,82,83,84] (k+5) [] ((k+2,⟨8,false,[mX (k+4) zSt (l2)]⟩)::cA (k+4) 3 ((l2).map Flt.row) [(k+1,⟨7,true,[b.cells]⟩),(k,⟨7,true,[a.cells]⟩)]) ?_ ?_;.refine dl [.gen (.tup []) (k+5) (LK (k+2) (k+3) zSt (l1)) (LK (k+2) (k+4) zSt (l2))] ?_;refine dD (zs ?_) (zs ?_);all_goals(first|(exact mF (k+4) (k+2) (k+3) zSt (l1) (l2) _ (decide (b.clk c<a.clk c)) _ _ _ (by first|rfl|(rw[aY];simp only[beq_iff_eq,bne_iff_ne,ne_eq,dTt,dFn,aC,bH,aT,beq_eq_false_iff_ne,aO,bM,true_iff,false_iff,iff_true,iff_false];omega)|(simp[hg];done)|(simp[hg,hq];done)|(simp_all;done)|(simp_all;omega)) e_l2 oO oO oO oO)|(exact fW))
  refine rR ?_;apply zN;refine wl ?_;refine aU (zs ?_);refine⟨c+1,oO,oO,?_⟩;rw[show bF (nD a b) (c+1)=l2 by rw[cY,<-e1,e_l2];rfl];refine rR ?_;apply zN;exact lM (k+4) (k+3) wL
 have hcn:c=a.nk:=oO;subst hcn;clear hfl;refine bE (X:=Nat) rfl [0,1,2,3,4,5,6,7,8,9,10,11,19,47,54,55,56,74,75,76,77,81,82,83,84] (k+4) (λ i=>[(76,i)]) (λ i=>(k+2,⟨8,false,[mX (k+3) zSt (l1++bF (uH a b) i)]⟩)::cA (k+3) 3 ((l1++bF (uH a b) i).map Flt.row) [(k+1,⟨7,true,[b.cells]⟩),(k,⟨7,true,[a.cells]⟩)]) (λ i=>i<=a.ns) (λ i=>a.ns-i) 0 ?_ (aJ _) ?_;.rw[dY,aR];refine rR ?_;apply zN;exact fW
 intro g hg2;have hfl:=mZ (f:=uH a b) (m:=12) g (λ g' hg'=>by have:=cJ (f:=lH a b g') (m:=1) (λ i=>dM _ _) (a.nsp g');have:=hp12 g' oO;unfold uH;omega);obtain⟨l2,e2,h2⟩:∃x,x=l1++bF (uH a b) g/\x.length<=l1.length+g*12:=⟨_,rfl,by simp;omega⟩;rw[<-e2];refine rR ?_;apply zN;refine wl ?_;refine dD ⟨λ ht=>zN ?_⟩ ⟨λ ht=>zN ?_⟩
 .have hpg:a.nsp g<=12:=hp12 g oO;have hpg':b.nsp g=a.nsp g:=gnsp g oO;refine bE (X:=Nat) rfl [0,1,2,3,4,5,6,7,8,9,10,11,19,47,54,55,56,74,75,76,77,81,82,83,84] (k+4) (λ i=>[(83,i)]) (λ i=>(k+2,⟨8,false,[mX (k+3) zSt (l2++bF (lH a b g) i)]⟩)::cA (k+3) 3 ((l2++bF (lH a b g) i).map Flt.row) [(k+1,⟨7,true,[b.cells]⟩),(k,⟨7,true,[a.cells]⟩)]) (λ i=>i<=a.nsp g) (λ i=>a.nsp g-i) 0 ?_ (aJ _) ?_;.rw[dY,aR];refine rR ?_;apply zN;exact fW
  intro c hc;have hfi:=cJ (f:=lH a b g) (m:=1) (λ i=>dM _ _) c;obtain⟨l3,e3,h3⟩:∃x,x=l2++bF (lH a b g) c/\x.length<=l2.length+c:=⟨_,rfl,by simp;omega⟩;rw[<-e3];refine rR ?_;apply zN;refine wl ?_;refine dD ⟨λ ht=>zN ?_⟩ ⟨λ ht=>zN ?_⟩
  .obtain⟨l4,e_l4,h_l4⟩:∃x,x=l3++gJ (decide ((b.sp g c).floor<(a.sp g c).floor)) ⟨16,(g:Int),(c:Int)⟩/\x.length<=(l3).length+1:=⟨_,rfl,iQ _ _ _⟩;refine lY [0,1,2,3,4,5,6,7,8,9,10,11,19,47,54,55,56,74,75,76,77,81,82,83,84] (k+6) [] ((k+2,⟨8,false,[mX (k+5) zSt (l4)]⟩)::cA (k+5) 3 ((l4).map Flt.row) [(k+4,⟨3,true,[sf a g c]⟩),(k+1,⟨7,true,[b.cells]⟩),(k,⟨7,true,[a.cells]⟩)]) ?_ ?_;.refine dl [.gen (.tup []) (k+6) (LK (k+2) (k+3) zSt (l3)) (LK (k+2) (k+5) zSt (l4))] ?_;refine dD (zs ?_) (zs ?_);all_goals(first|(exact mF (k+5) (k+2) (k+3) zSt (l3) (l4) _ (decide ((b.sp g c).floor<(a.sp g c).floor)) _ _ _ (by first|rfl|(rw[aY];simp only[beq_iff_eq,bne_iff_ne,ne_eq,dTt,dFn,aC,bH,aT,beq_eq_false_iff_ne,aO,bM,true_iff,false_iff,iff_true,iff_false];omega)|(simp[hg];done)|(simp[hg,hq];done)|(simp_all;done)|(simp_all;omega)) e_l4 oO oO oO oO)|(exact fW))
   refine rR ?_;apply zN;refine wl ?_;refine aU (zs ?_);refine⟨c+1,oO,oO,?_⟩;rw[show l2++bF (lH a b g) (c+1)=l4 by rw[cY,<-bL,<-e3,e_l4];rfl];refine rR ?_;apply zN;exact lM (k+5) (k+3) wL
  have hcn:c=a.nsp g:=oO;refine⟨g+1,oO,oO,?_⟩;rw[show l1++bF (uH a b) (g+1)=l3 by rw[cY,<-bL,<-e2,e3,hcn];rfl];refine rR ?_;apply zN;exact fW
 have hgn:g=a.ns:=oO;subst hgn;have hl2:oM a b=l2:=by rw[e2,e1];rfl
 have hok:=aPN a b hq.sm;have hso:=(TF a b).imp λ {x y} hxy=>(NK y x).2 hxy;rw[hl2]at hRr hok hso;refine cl [.gen (bV (k+3) (l2.map Flt.row)) (k+4) (LK (k+2) (k+3) zSt l2) (LK (k+2) (k+3) zSt l2)] ?_;refine dD (zs ?_) (zs ?_);.exact sorted (k+4) (k+2) (k+3) zSt l2 l2 oO oO oO hok (fV.refl _) hso oO
 refine dI (kU (fr1:=[(4,bV (k+3) (l2.map Flt.row)),(5,.lit (.int .i64 0))]) (k1:=k+4) (H1:=cA (k+3) 3 (l2.map Flt.row) []) wL) ?_;refine dI (xX (id:=k+3) (s:=3) (l:=l2.map Flt.row) 4 (rows 3 (l2.map Flt.row)) [] sL sL (aK _) sL sL) ?_;refine rR ?_;apply zN;refine aX rfl ⟨_,rfl,?_⟩;rw[hRr];exact aK _
theorem aAV(a b:St)(hq:PreOk a):(kE a b).length<=100000:=by
 have:=aBT (b:=b) hq;unfold kE;split;.simp
 split;.simp
 omega
end Go.Proofs.T
end
section
namespace Go.AM
open Go
abbrev lL:=List (Int×Value×Nat)
def sY(q:IntKind)(e:Int×Value×Nat):MapEntry:={key:= .int q e.1,val:=e.2.1,born:=e.2.2}
def aKZ(q:IntKind)(e:Int×Value×Nat):List AVal:=[.lit (.int q e.1),.lit e.2.1,.lit (.int .i64 e.2.2)]
def mO(q:IntKind)(l:lL)(clock:Nat):Blk:=⟨3,true,[.lit (.int .i64 clock),.lit (.int .i64 l.length),.lit (.int .i64 1)]::l.map (aKZ q)⟩
theorem aRR{α:Type}{f:α->List Value}(hf:∀x,(f x).length=3):∀(l:List α) (r c:Nat),c<3->(l.flatMap f)[r*3+c]? =(l[r]?).bind λ x=>(f x)[c]?
 |[],r,c,_=>sS
 |x::l,0,c,h=>by rw[List.flatMap_cons,tM,dV,fU (by rw[hf];exact h)];rfl
 |x::l,r+1,c,h=>by rw[List.flatMap_cons,gQ (by rw[hf];omega),hf];have e:(r+1)*3+c-3=r*3+c:=oO;rw[e,aRR hf l r c h];rfl
theorem aGC(es:List MapEntry)(clock r c:Nat)(h:c<3):(XO es clock)[(r+1)*3+c]? =(es[r]?).bind λ e=>[e.key,e.val,bC .i64 e.born][c]? :=by have e:(r+1)*3+c=r*3+c+1+1+1:=oO;rw[e];simp only[XO,eW];exact aRR (λ _=>rfl) es r c h
theorem GQ{w:World}{G:Nat->Prop}{ρ:cM}{A:bU}{q:IntKind}{l:lL}{clock b:Nat}(h:BRel w G ρ A (mO q l clock) b)(hs:BA w b=some none):
 ∃es:Array MapEntry,w.heap[b]? =some (.map es clock)/\es.toList=l.map (sY q):=by
 obtain⟨⟨C,o,⟨hC,hO⟩,hrows⟩,hlen⟩:=h;have lit:∀r row c v,(mO q l clock).rows[r]? =some row->row[c]? =some (.lit v)->C[r*3+c]? =some v:=λ r row c v h1 h2=>by obtain⟨cv,h3,h4⟩:=hrows r row c _ h1 h2;cases h4;exact h3
 have e0:=lit 0 _ 0 _ rfl rfl;have e1:=lit 0 _ 1 _ rfl rfl;have e2:=lit 0 _ 2 _ rfl rfl
 cases hO with
 |cells=>simp[BA,hC]at hs
 |iter=>simp[EM]at e2
 | @map es clock'=>
  simp[XO]at e0 e1;have hclk:clock'=clock:=oO;have hln:es.size=l.length:=oO;subst hclk;refine⟨es,hC,kP λ r=>?_⟩;by_cases hr:r<l.length
  .have hrow:(mO q l clock').rows[r+1]? =some (aKZ q l[r]):=by simp[mO,aE hr]
   have a0:=lit (r+1) _ 0 _ hrow rfl;have a1:=lit (r+1) _ 1 _ hrow rfl;have a2:=lit (r+1) _ 2 _ hrow rfl;rw[cH,aGC _ _ _ _ oO]at a0 a1 a2;have hx:es.toList[r]? =some (es[r]'oO):=by rw[bA,aP]
   rw[hx]at a0 a1 a2⊢
   rw[aQ,aE hr];simp at a0 a1 a2;simp only[cB,sY];congr 1;rw[<-a0,<-a1];have:(es[r]'oO).born=l[r].2.2:=oO;rw[<-this]
  rw[cI (by simp;omega),cI (by simp;omega)]
theorem aGA{w:World}{G:Nat->Prop}{ρ:cM}{A:bU}{q:IntKind}{l:lL}{clock:Nat}{es:Array MapEntry}(he:es.toList=l.map (sY q)):
 (∀(r:Nat) row,(mO q l clock).rows[r]? =some row->row.length=(mO q l clock).sz)∧
 ∀r row c v,(mO q l clock).rows[r]? =some row->row[c]? =some v->∃cv,(XO es.toList clock).toArray[r*(mO q l clock).sz+c]? =some cv/\V w G (if(mO q l clock).pure then bR else ρ) (if(mO q l clock).pure then cF else A) v cv:=by
 constructor
 .intro r row h
  cases r with
  |zero=>cases h;rfl
  |succ r=>simp only[mO,eW,aQ,aB]at h;obtain⟨e,_,rfl⟩:=h;rfl
 intro r row c v h1 h2;show ∃cv,(XO es.toList clock).toArray[r*3+c]? =some cv/\V w G bR cF v cv;rw[cH]
 cases r with
 |zero=>
  cases h1;have hl:es.toList.length=l.length:=by rw[he];simp
  match c,h2 with
  |0,h2=>cases h2;exact⟨_,rfl,.lit⟩
  |1,h2=>cases h2;exact⟨_,by simp only[XO,hl];rfl,.lit⟩
  |2,h2=>cases h2;exact⟨_,rfl,.lit⟩
  |c+3,h2=>simp at h2
 |succ r=>
  simp only[mO,eW,aQ,aB]at h1;obtain⟨e,h1,rfl⟩:=h1;have hc:c<3:=by have:=(aG.1 h2).1;simpa [aKZ]using this
  rw[aGC _ _ _ _ hc,he,aQ,h1]
  match c,h2 with
  |0,h2=>cases h2;exact⟨_,rfl,.lit⟩
  |1,h2=>cases h2;exact⟨_,rfl,.lit⟩
  |2,h2=>cases h2;exact⟨_,rfl,.lit⟩
  |c+3,h2=>omega
section
variable{P:Program}{Γ:List (Nat×List AVal)}{o:Oper}{ev:Operand->Option AVal}{get:Nat->Option Blk}{k:Nat}
theorem QM{w w':World}{G:Nat->Prop}{ρ:cM}{H:lP}{A A':bU}{q:IntKind}{id b:Nat}{l l':lL}{clock clock':Nat}{es es':Array MapEntry}
 (hr:HRel Γ w G ρ H) (hH:H id=some (mO q l clock,A')) (hAA:∀i,A' i->A i) (hb:ρ id=some (b,3)) (hm:w.heap[b]? =some (.map es clock)) (he:es'.toList=l'.map (sY q))
 (hw:w'.heap=w.heap.setIfInBounds b (.map es' clock')) (h1:w'.os=w.os) (h2:w'.tape=w.tape) (h3:w'.output=w.output):
 HRel Γ w' G ρ (iR H (λ i=>A i\/(k<=i/\i<k)) [(id,some (mO q l' clock'))])/\Step (λ i=>¬(k<=i/\i<k)) w G ρ w' G ρ:=by
 have hbl:b<w.heap.size:=(cZ.1 hm).1;have hnew:w'.heap[b]? =some (.map es' clock'):=by rw[hw];simp[hbl]
 have hoth:∀j,j≠b->w'.heap[j]? =w.heap[j]? :=λ j hj=>by rw[hw,kR (Ne.symm hj)]
 have hA:=(hr.blk id _ A' hH).1;have hrel:=aGA (w:=w) (G:=G) (ρ:=ρ) (A:=A) (clock:=clock') he
 obtain⟨g1,g2⟩:=hr.rewriteO (B:=mO q l clock) hb id (.inl rfl) (mO q l' clock') rfl _ (.map es' clock') .map A (λ i=>A i\/(k<=i/\i<k)) (.inl rfl) (λ _ h=> .inl h) (.inl (hAA _ hA))
  w' hnew hoth (by rw[hw];simp) (by simp[BA,hnew,hm]) h1 h2 h3 hrel.1 hrel.2
 have hnm:dT (dT ρ id none) id (some (b,3))=ρ:=funext λ i=>by
  simp only[dT];split;.rename_i he;rw[he,hb]
  rfl
 rw[show(mO q l clock).sz=3 from rfl,hnm]at g1 g2;have hup:iR H (λ i=>A i\/(k<=i/\i<k)) [(id,some (mO q l' clock')),(id,none)]=iR H (λ i=>A i\/(k<=i/\i<k)) [(id,some (mO q l' clock'))]:=funext λ i=>by simp only[iR];split<;>simp_all
 rw[hup]at g1;exact⟨g1,⟨g2.size,g2.keep,g2.shape,g2.g,g2.g',g2.own,λ i _=>g2.ids i (Or.inr rfl),g2.os,g2.tape,g2.output⟩⟩
def a7C:AVal->Option Value
 | .lit v=>some v
 |_=>none
def SB:AVal->Option Value
 | .lit v=>some v
 | .agg cs=>(cs.mapM a7C).map λ(l:List Value)=>Value.agg l.toArray
 |_=>none
theorem a0J{w:World}{G:Nat->Prop}{ρ:cM}{A:bU}{v:AVal}{cv x:Value}(h:V w G ρ A v cv)(hl:SB v=some x):cv=x:=by
 cases h with
 |lit=>simpa [SB]using hl
 | @agg _ _ cells cs h1 h2=>
  simp only[SB,aB]at hl;obtain⟨l,hl,rfl⟩:=hl;have hlen:=Lib.mapM_length hl;congr 1;refine aFB (by simp;omega) λ i hi hi'=>?_;have hic:i<cells.length:=oO;obtain⟨u,h3,h4⟩:=Lib.mapM_at hl i cells[i] (aE hic);have h5:=h2 i _ (aE hic);generalize cells[i]=c at h4 h5
  cases c with
  |lit y=>
   have hy:u=y:=by simpa [a7C]using h4.symm
   subst hy;have h6:cs.getD i undef=u:=by cases h5;rfl
   rw[aD,aP hi]at h6;have h7:l[i]? =some u:=h3;rw[aE (by simpa using hi')]at h7;simp at h6 h7;simp[h6,h7]
  |_=>cases h4
 |_=>simp[SB]at hl
def yZ(l:lL)(n:Int):Option Value:=(l.find? λ e=>e.1==n).map (·.2.1)
def MY(l:lL)(n:Int):lL:=l.filter λ e=> !(e.1==n)
def FL(l:lL):Prop:=(l.map (·.1)).Nodup
theorem MQ{l:lL}{n:Int}(h:∀e∈l,e.1≠n):yZ l n=none:=by unfold yZ;rw[List.find?_eq_none.2 (λ e he=>by simpa using h e he)];rfl
theorem MP{l:lL}{n:Int}(hu:FL l){j:Nat}{e:Int×Value×Nat}(hj:l[j]? =some e)(he:e.1=n):yZ l n=some e.2.1:=by
 induction l generalizing j with
 |nil=>simp at hj
 |cons a l ih=>
  simp only[FL,bG,List.nodup_cons]at hu
  cases j with
  |zero=>cases hj;simp[yZ,he]
  |succ j=>have h1:l[j]? =some e:=hj;have h2:a.1≠n:=λ h=>hu.1 (h▸he▸cL.2 ⟨e,jC h1,rfl⟩);have:=ih hu.2 h1;simpa [yZ,h2]using this
theorem RM{l:lL}{n:Int}(h:∀e∈l,e.1≠n):MY l n=l:=vK.2 λ e he=>by simpa using h e he
theorem aLD{l:lL}{n:Int}(hu:FL l){j:Nat}{e:Int×Value×Nat}(hj:l[j]? =some e)(he:e.1=n):MY l n=l.eraseIdx j:=by
 induction l generalizing j with
 |nil=>simp at hj
 |cons a l ih=>
  simp only[FL,bG,List.nodup_cons]at hu
  cases j with
  |zero=>cases hj;have:MY l n=l:=RM λ x hx h=>hu.1 (he▸h▸cL.2 ⟨x,hx,rfl⟩);simpa [MY,he]using this
  |succ j=>
   have h1:l[j]? =some e:=hj;have h2:a.1≠n:=λ h=>hu.1 (h▸he▸cL.2 ⟨e,jC h1,rfl⟩);have:=ih hu.2 h1;simp only[MY]at this⊢
   rw[List.filter_cons_of_pos (by simpa using h2),this];rfl
theorem aGW{α β:Type}(f:α->β):∀(l:List α) (j:Nat),(l.eraseIdx j).map f=(l.map f).eraseIdx j
 |[],j=>sS
 |a::l,0=>rfl
 |a::l,j+1=>by simp[aGW f l j]
structure MapT (P:Program) (t kt et:TypeId) (q:IntKind) (z:Value):Prop where
 t:P.underlying t=some (.map kt et)
 k:P.underlying kt=some (.int q)
 z:(P.info? et).bind (·.zero)=some z
theorem MapT.zero {t kt et:TypeId}{q:IntKind}{z:Value}(h:MapT P t kt et q z)(w:World):(zeroValue et).run P w= .ok z w:=by have:=h.z;simp only[bX]at this;obtain⟨i,h1,h2⟩:=this;simp[zeroValue,typeInfo,h1,h2]
def wfK(q:IntKind)(n:Int):Bool:=(Lit.int q n).wf
theorem HB{kt:TypeId}{q:IntKind}(hk:P.underlying kt=some (.int q)){l:lL}(hl:∀e∈l,wfK q e.1=true){n:Int}(hn:wfK q n=true)(w:World):
 ((Instr.findKey kt (.int q n) (l.map (sY q))).run P w= .ok none w/\∀e∈l,e.1≠n)∨
 ∃j e,(Instr.findKey kt (.int q n) (l.map (sY q))).run P w= .ok (some (j,e.2.1)) w/\l[j]? =some e/\e.1=n:=by
 rcases(Maps.int_keyed hk).find w (Maps.keyOf_int_mk hk hn) (l.map (sY q)) (λ x hx=>by obtain⟨e,he,rfl⟩:=cL.1 hx;exact⟨_,Maps.keyOf_int_mk hk (hl e he)⟩)with⟨h1,h2⟩|⟨j,x,h1,h2,h3⟩
 .refine .inl ⟨h1,λ e he hc=>h2 _ (cL.2 ⟨e,he,rfl⟩) (by simp[sY,hc])⟩
 rw[aQ,aB]at h2;obtain⟨e,h4,rfl⟩:=h2;exact .inr ⟨j,e,h1,h4,by simpa [sY]using h3⟩
theorem QQ{t kt et id:Nat}{q:IntKind}{z:Value}{m x:Operand}{n:Int}{l:lL}{clock:Nat}(ho:o.op= .lookup t m x true)(ht:MapT P t kt et q z)(hm:ev m=some (.mp id))(hx:ev x=some (.lit (.int q n)))
 (hB:get id=some (mO q l clock)) (hl:∀e∈l,wfK q e.1=true) (hn:wfK q n=true) (hu:FL l):Good P Γ o ev get k ⟨.tup [.lit ((yZ l n).getD z),.lit (.bool (yZ l n).isSome)],k,[],[id]⟩:=by
 refine⟨cE λ w G ρ H A a hr hrd hop=>?_,λ i hi=>by simp at hi;rw[hi,hB];rfl,aF _⟩;have hvm:=hop m (by simp[ho,Op.operands]) _ hm;have hvx:=V_lit (hop x (by simp[ho,Op.operands]) _ hx);obtain⟨B',A',h2,hH,_⟩:=hrd id sS;rw[hB]at h2;cases h2;obtain⟨_,b,hb,_,hBR⟩:=hr.blk id _ A' hH;generalize hev:a.eval m=cv at hvm
 cases hvm with
 |dangm _ hn'=>rw[hb]at hn';cases hn'
 |mp ha hρ hsh=>
  rw[hb]at hρ;cases hρ;obtain⟨es,hes,hel⟩:=GQ hBR hsh;refine⟨.tuple #[(yZ l n).getD z,.bool (yZ l n).isSome],?_,.tup rfl λ j v hj=>?_⟩
  .rcases HB ht.k hl hn w with⟨h3,h4⟩|⟨j,e,h3,h4,h5⟩;.rw[MQ h4];rw[<-hel]at h3;simp[execOp,ho,hev,hvx,Instr.lookup,run_underlying ht.t,MapKept.run_getObj_map hes,(Maps.int_keyed ht.k).check w _ (Maps.keyOf_int_mk ht.k hn),h3,ht.zero,aEZ]
   rw[MP hu h4 h5];rw[<-hel]at h3;simp[execOp,ho,hev,hvx,Instr.lookup,run_underlying ht.t,MapKept.run_getObj_map hes,(Maps.int_keyed ht.k).check w _ (Maps.keyOf_int_mk ht.k hn),h3,aEZ]
  match j,hj with
  |0,hj=>cases hj;exact .lit
  |1,hj=>cases hj;exact .lit
  |j+2,hj=>simp at hj
theorem WS{t kt et id:Nat}{q:IntKind}{z:Value}{m x y:Operand}{n:Int}{l:lL}{clock:Nat}{av:AVal}{v:Value}(ho:o.op= .mapUpdate t m x y)(ht:MapT P t kt et q z)(hm:ev m=some (.mp id))
 (hx:ev x=some (.lit (.int q n))) (hy:ev y=some av) (hv:SB av=some v) (hB:get id=some (mO q l clock)) (hl:∀e∈l,wfK q e.1=true) (hn:wfK q n=true) (hf:∀e∈l,e.1≠n):
 Good P Γ o ev get k ⟨.junk,k,[(id,some (mO q (l++[(n,v,clock)]) (clock+1)))],[id]⟩:=by
 refine⟨λ w G ρ H A a hr hA hfr hrd hop next Q hN=>?_,λ i hi=>by simp at hi;rw[hi,hB];rfl,aF _⟩;have hvm:=hop m (by simp[ho,Op.operands]) _ hm;have hvx:=V_lit (hop x (by simp[ho,Op.operands]) _ hx);have hvy:=a0J (hop y (by simp[ho,Op.operands]) _ hy) hv;obtain⟨B',A',h2,hH,hAA⟩:=hrd id sS;rw[hB]at h2;cases h2;obtain⟨_,b,hb,_,hBR⟩:=hr.blk id _ A' hH;generalize hev:a.eval m=cv at hvm
 cases hvm with
 |dangm _ hn'=>rw[hb]at hn';cases hn'
 |mp ha hρ hsh=>
  rw[hb]at hρ;cases hρ;obtain⟨es,hes,hel⟩:=GQ hBR hsh;rcases HB ht.k hl hn w with⟨h3,h4⟩|⟨j,e,h3,h4,h5⟩
  .rw[<-hel]at h3;have hrun:(execOp a.eval o).run P w= .ok .skip {w with heap:=w.heap.setIfInBounds b (.map (es.push ⟨.int q n,v,clock⟩) (clock+1))}:=by simp[execOp,ho,hev,hvx,hvy,Instr.mapUpdate,run_underlying ht.t,MapKept.run_getObj_map hes,(Maps.int_keyed ht.k).check w _ (Maps.keyOf_int_mk ht.k hn),h3,MapKept.run_setObj_map _ hes,aEZ]
   obtain⟨g1,g2⟩:=QM (k:=k) (l':=l++[(n,v,clock)]) (clock':=clock+1) (es':=es.push ⟨.int q n,v,clock⟩) (w':={w with heap:=w.heap.setIfInBounds b (.map (es.push ⟨.int q n,v,clock⟩) (clock+1))}) hr hH hAA hb hes (by simp[hel,sY]) rfl rfl rfl rfl;unfold Oper.wp;rw[hrun];exact hN _ G ρ undef g1 .junk g2
  exact absurd h5 (hf e (jC h4))
theorem ZA{t kt et id:Nat}{q:IntKind}{z:Value}{m x:Operand}{n:Int}{l:lL}{clock:Nat}(ho:o.op= .call {callee:= .builtin .delete,args:= #[m,x],argTypes:= #[t,kt]})(ht:MapT P t kt et q z)(hm:ev m=some (.mp id))
 (hx:ev x=some (.lit (.int q n))) (hB:get id=some (mO q l clock)) (hl:∀e∈l,wfK q e.1=true) (hn:wfK q n=true) (hu:FL l):
 Good P Γ o ev get k ⟨.lit (.tuple #[]),k,[(id,some (mO q (MY l n) clock))],[id]⟩:=by
 refine⟨λ w G ρ H A a hr hA hfr hrd hop next Q hN=>?_,λ i hi=>by simp at hi;rw[hi,hB];rfl,aF _⟩;have hvm:=hop m (by simp[ho,Op.operands,Call.operands]) _ hm;have hvx:=V_lit (hop x (by simp[ho,Op.operands,Call.operands]) _ hx);obtain⟨B',A',h2,hH,hAA⟩:=hrd id sS;rw[hB]at h2;cases h2;obtain⟨_,b,hb,_,hBR⟩:=hr.blk id _ A' hH;generalize hev:a.eval m=cv at hvm
 cases hvm with
 |dangm _ hn'=>rw[hb]at hn';cases hn'
 |mp ha hρ hsh=>
  rw[hb]at hρ;cases hρ;obtain⟨es,hes,hel⟩:=GQ hBR hsh
  have key:∃es':Array MapEntry,es'.toList=(MY l n).map (sY q)/\(execOp a.eval o).run P w= .ok (.value (.tuple #[])) {w with heap:=w.heap.setIfInBounds b (.map es' clock)}:=by
   rcases HB ht.k hl hn w with⟨h3,h4⟩|⟨j,e,h3,h4,h5⟩;.rw[<-hel]at h3;refine⟨es,by rw[RM h4,hel],?_⟩;simp[execOp,ho,resolve,invoke,builtin,hev,hvx,Builtin.delete_,run_underlying ht.t,MapKept.run_getObj_map hes,(Maps.int_keyed ht.k).check w _ (Maps.keyOf_int_mk ht.k hn),h3,MapKept.run_setObj_map _ hes,aEZ]
   rw[<-hel]at h3
   have hjl:j<es.size:=by
    have h6:=(aG.1 h4).1;have h7:es.toList.length=l.length:=by rw[hel];simp
    simp at h7;omega
   refine⟨es.eraseIdxIfInBounds j,?_,?_⟩;.unfold Array.eraseIdxIfInBounds;rw[dif_pos hjl,aLD hu h4 h5];simp only[hel,Array.toList_eraseIdx];exact(aGW _ _ _).symm
   simp[execOp,ho,resolve,invoke,builtin,hev,hvx,Builtin.delete_,run_underlying ht.t,MapKept.run_getObj_map hes,(Maps.int_keyed ht.k).check w _ (Maps.keyOf_int_mk ht.k hn),h3,MapKept.run_setObj_map _ hes,aEZ]
  obtain⟨es',he',hrun⟩:=key;obtain⟨g1,g2⟩:=QM (k:=k) (l':=MY l n) (clock':=clock) (es':=es') (w':={w with heap:=w.heap.setIfInBounds b (.map es' clock)}) hr hH hAA hb hes he' rfl rfl rfl rfl;unfold Oper.wp;rw[hrun];exact hN _ G ρ _ g1 .lit g2
theorem LV{t:Nat}(q:IntKind)(ho:o.op= .makeMap t none):Good P Γ o ev get k ⟨.mp k,k+1,[(k,some (mO q [] 0))],[]⟩:=by
 refine⟨λ w G ρ H A a hr hA hfr hrd hop next Q hN=>?_,λ i hi=>by simp at hi,PH _⟩;obtain⟨hρ,hf⟩:=hfr k (aF _) (dC _);have hkA:¬A k:=λ hk=>tC _ (hA k hk);have hrun:(execOp a.eval o).run P w= .ok (.value (.map (some w.heap.size))) (w.alloc (.map #[] 0)):=by have hmm:(Instr.makeMap t none).run P w= .ok (.map (some w.heap.size)) (w.alloc (.map #[] 0)):=rfl;simp[execOp,ho,hmm]
 have hrows:=aGA (w:=w) (G:=G) (ρ:=ρ) (A:=A) (q:=q) (l:=[]) (clock:=0) (es:= #[]) rfl;have hrel:=hr.allocO k hρ hf (mO q [] 0) _ (.map #[] 0) .map A (λ i=>A i\/(k<=i/\i<k+1)) hkA (λ _ h=> .inl h) (.inr ⟨aF _,dC _⟩) hrows.1 hrows.2 w rfl rfl rfl rfl;have hst:=mS (w:=w) (G:=G) (ρ:=ρ) k 3 (.map #[] 0) w rfl rfl rfl rfl;unfold Oper.wp;rw[hrun];refine hN _ G _ _ hrel (.mp (b:=w.heap.size) (s:=3) (.inr ⟨aF _,dC _⟩) (by simp[dT];rfl) ?_) ⟨hst.size,hst.keep,hst.shape,hst.g,hst.g',hst.own,λ i hi=>hst.ids i (λ he=>hi (oO:k<=i/\i<k+1)),hst.os,hst.tape,hst.output⟩;show BA (w.alloc (.map #[] 0)) w.heap.size=some none;have h9:=iV w (.map #[] 0);unfold BA;rw[h9];rfl
end
def jP(mid since:Nat)(seen:List Nat)(c0:Nat):Blk:=
 ⟨3,false,[.lit (.int .i64 c0),.lit (.int .i64 seen.length),.lit (.int .i64 2)]::[.mp mid,.lit (.int .i64 since),.lit (.int .i64 0)]::seen.map λ(x:Nat)=>[.lit (.int .i64 (x:Int)),.lit (.int .i64 0),.lit (.int .i64 0)]⟩
theorem YA(m:Option Nat)(since:Nat)(seen:Array Nat)(c0 r c:Nat)(h:c<3):(EM m since seen c0)[(r+2)*3+c]? =(seen.toList[r]?).bind λ(x:Nat)=>[bC .i64 (x:Int),.int .i64 0,.int .i64 0][c]? :=by have e:(r+2)*3+c=r*3+c+1+1+1+1+1+1:=oO;rw[e];simp only[EM,eW];exact aRR (λ _=>rfl) _ r c h
theorem aGM{w:World}{G:Nat->Prop}{ρ:cM}{A:bU}{mid since c0 b bm s:Nat}{seen:List Nat}(h:BRel w G ρ A (jP mid since seen c0) b)(hs:BA w b=some none)(hm:ρ mid=some (bm,s)):
 w.heap[b]? =some (.mapIter (some bm) since seen.toArray c0)/\BA w bm=some none:=by
 obtain⟨⟨C,o,⟨hC,hO⟩,hrows⟩,hlen⟩:=h;have lit:∀r row c v,(jP mid since seen c0).rows[r]? =some row->row[c]? =some (.lit v)->C[r*3+c]? =some v:=λ r row c v h1 h2=>by obtain⟨cv,h3,h4⟩:=hrows r row c _ h1 h2;cases h4;exact h3
 have e0:=lit 0 _ 0 _ rfl rfl;have e1:=lit 0 _ 1 _ rfl rfl;have e2:=lit 0 _ 2 _ rfl rfl;have e4:=lit 1 _ 1 _ rfl rfl;obtain⟨cm,hcm,hvm⟩:=hrows 1 _ 0 _ rfl rfl
 cases hO with
 |cells=>simp[BA,hC]at hs
 |map=>simp[XO]at e2
 | @iter m since' seen' c0'=>
  have hcm2:(EM m since' seen' c0').toArray[3]? =some cm:=hcm;simp[EM]at e0 e1 e4 hcm2;have hvm':V w G ρ A (.mp mid) cm:=by simpa [jP]using hvm
  subst hcm2;have hc0:c0'=c0:=oO;have hsi:since'=since:=oO;have hln:seen'.size=seen.length:=oO;subst hc0;subst hsi
  have hseen:seen'=seen.toArray:=by
   refine bAQ (kP λ r=>?_);by_cases hr:r<seen.length
   .have hrow:(jP mid since' seen c0').rows[r+2]? =some [.lit (.int .i64 ((seen[r]:Nat):Int)),.lit (.int .i64 0),.lit (.int .i64 0)]:=by simp[jP,aE hr]
    have a0:=lit (r+2) _ 0 _ hrow rfl;rw[cH,YA _ _ _ _ _ _ oO]at a0;have hx:seen'.toList[r]? =some (seen'[r]'oO):=by rw[bA,aP]
    rw[hx]at a0⊢
    simp at a0;have:seen'[r]'oO=seen[r]:=oO;rw[this,aE hr]
   rw[cI (by simp;omega),cI (by simp;omega)]
  subst hseen
  cases hvm' with
  |dangm _ hn=>rw[hm]at hn;cases hn
  |mp _ hρ hsm=>rw[hm]at hρ;cases hρ;exact⟨hC,hsm⟩
theorem XZ{w:World}{G:Nat->Prop}{ρ:cM}{A:bU}{mid since c0 bm:Nat}{seen:List Nat}(hm:V w G ρ A (.mp mid) (.map (some bm))):
 (∀(r:Nat) row,(jP mid since seen c0).rows[r]? =some row->row.length=(jP mid since seen c0).sz)∧
 ∀ r row c v,(jP mid since seen c0).rows[r]? =some row->row[c]? =some v->∃cv,(EM (some bm) since seen.toArray c0).toArray[r*(jP mid since seen c0).sz+c]? =some cv∧
   V w G (if(jP mid since seen c0).pure then bR else ρ) (if(jP mid since seen c0).pure then cF else A) v cv:=by
 constructor
 .intro r row h
  match r,h with
  |0,h=>cases h;rfl
  |1,h=>cases h;rfl
  | r+2,h=>
    simp only[jP,eW,aQ,aB]at h
    obtain⟨e,_,rfl⟩:=h
    rfl
 intro r row c v h1 h2;show ∃cv,(EM (some bm) since seen.toArray c0).toArray[r*3+c]? =some cv/\V w G ρ A v cv;rw[cH]
 match r,h1 with
 | 0,h1=>
   cases h1
   match c,h2 with
   |0,h2=>cases h2;exact⟨_,rfl,.lit⟩
   |1,h2=>cases h2;exact⟨_,by simp only[EM,gW];rfl,.lit⟩
   |2,h2=>cases h2;exact⟨_,rfl,.lit⟩
   |c+3,h2=>simp at h2
 | 1,h1=>
   cases h1
   match c,h2 with
   |0,h2=>cases h2;exact⟨_,rfl,hm⟩
   |1,h2=>cases h2;exact⟨_,rfl,.lit⟩
   |2,h2=>cases h2;exact⟨_,rfl,.lit⟩
   |c+3,h2=>simp at h2
 | r+2,h1=>
   have h4:(seen.map λ(x:Nat)=>[AVal.lit (.int .i64 (x:Int)),.lit (.int .i64 0),.lit (.int .i64 0)])[r]? =some row:=h1
   rw[aQ,aB]at h4
   obtain⟨e,h5,rfl⟩:=h4
   have hc:c<3:=by have:=(aG.1 h2).1;simpa using this
   rw[YA _ _ _ _ _ _ hc]
   have h3:seen.toArray.toList[r]? =some e:=h5
   rw[h3]
   match c,h2 with
   |0,h2=>cases h2;exact⟨_,rfl,.lit⟩
   |1,h2=>cases h2;exact⟨_,rfl,.lit⟩
   |2,h2=>cases h2;exact⟨_,rfl,.lit⟩
   |c+3,h2=>omega
section
variable{P:Program}{Γ:List (Nat×List AVal)}{o:Oper}{ev:Operand->Option AVal}{get:Nat->Option Blk}{k nt kb:Nat}
theorem KY{t kt et mid:Nat}{q:IntKind}{z:Value}{m:Operand}{l:lL}{clock:Nat}(ho:o.op= .range t m)(ht:MapT P t kt et q z)(hm:ev m=some (.mp mid))(hB:get mid=some (mO q l clock)):
 Good P Γ o ev get k ⟨.it k,k+1,[(k,some (jP mid clock [] clock))],[mid]⟩:=by
 refine⟨λ w G ρ H A a hr hA hfr hrd hop next Q hN=>?_,λ i hi=>by simp at hi;rw[hi,hB];rfl,PH _⟩;obtain⟨hρk,hf⟩:=hfr k (aF _) (dC _);have hkA:¬A k:=λ hk=>tC _ (hA k hk);have hvm:=hop m (by simp[ho,Op.operands]) _ hm;obtain⟨B',A',h2,hH,hAA⟩:=hrd mid sS;rw[hB]at h2;cases h2;obtain⟨_,b,hb,_,hBR⟩:=hr.blk mid _ A' hH;generalize hev:a.eval m=cv at hvm;have hvm0:=hvm
 cases hvm with
 |dangm _ hn'=>rw[hb]at hn';cases hn'
 |mp ha hρ hsh=>
  rw[hb]at hρ;cases hρ;obtain⟨es,hes,hel⟩:=GQ hBR hsh;have hrun:(execOp a.eval o).run P w= .ok (.value (.pointer (some ⟨w.heap.size,0,none⟩))) (w.alloc (.mapIter (some b) clock #[] clock)):=by have:=run_range_map w t kt et b es clock ht.t hes;simp[execOp,ho,hev,this]
  have hrows:=XZ (since:=clock) (c0:=clock) (seen:=[]) hvm0;have hrel:=hr.allocO k hρk hf (jP mid clock [] clock) _ (.mapIter (some b) clock #[] clock) .iter A (λ i=>A i\/(k<=i/\i<k+1)) hkA (λ _ h=> .inl h) (.inr ⟨aF _,dC _⟩) hrows.1 hrows.2 w rfl rfl rfl rfl;have hst:=mS (w:=w) (G:=G) (ρ:=ρ) k 3 (.mapIter (some b) clock #[] clock) w rfl rfl rfl rfl;unfold Oper.wp;rw[hrun];refine hN _ G _ _ hrel (.it (b:=w.heap.size) (s:=3) (.inr ⟨aF _,dC _⟩) (by simp[dT];rfl) ?_) ⟨hst.size,hst.keep,hst.shape,hst.g,hst.g',hst.own,λ i hi=>hst.ids i (λ he=>hi (oO:k<=i/\i<k+1)),hst.os,hst.tape,hst.output⟩;show BA (w.alloc (.mapIter (some b) clock #[] clock)) w.heap.size=some none;have h9:=iV w (.mapIter (some b) clock #[] clock);unfold BA;rw[h9];rfl
structure GoodN (P:Program) (Γ:List (Nat×List AVal)) (o:Oper) (ev:Operand->Option AVal) (get:Nat->Option Blk) (k:Nat) (rds:List Nat) (outs:Out->Prop):Prop where
 ok:∀w G ρ H (A:bU) (a:Act),HRel Γ w G ρ H->(∀i,A i->i<k)->(∀id,id∈rds->∃B A',get id=some B/\H id=some (B,A')/\∀i,A' i->A i)→
  (∀x,x∈o.op.operands->∀v,ev x=some v->V w G ρ A v (a.eval x))->∀(next:Act->World->Prop) (Q:Exit->Act->World->Prop),
    (∀out,outs out->∀w' G' ρ' cv,HRel Γ w' G' ρ' (iR H (λ i=>A i\/(k<=i/\i<k)) out.upd)->V w' G' ρ' (λ i=>A i\/(k<=i/\i<k)) out.v cv→
      Step (λ i=>¬(k<=i/\i<k)) w G ρ w' G' ρ'->next (a.put o.dst cv) w')->o.wp P a w next Q
 rds:∀id,id∈rds->(get id).isSome=true
 k:∀out,outs out->out.k=k
theorem SC{fr:Fr}{H:aS}{Q:AQ}{id:Nat}{ops:Array Oper}{r:List Oper}(hops:ops.toList=o::r)(hd:mM nt ops=true)(hgd:o.guard=none){rds:List Nat}{outs:Out->Prop}
 (hN:GoodN P Γ o (kB Γ fr) (look H) k rds outs) (h:∀out,outs out->Run P Γ ops r k (gK fr o.dst out.v) (lD H out.upd) (λ _ k' fr' H'=>kb<=k'->Q .normal k' fr' H')):W P Γ nt kb (.region id ops false) Q k fr H:=λ A0 hA0 hk w G ρ a hi=>by
 refine wp_region ?_
 have hlen:ops.size=r.length+1:=by rw[<-vM,hops];rfl
 have ho:ops[0]? =some o:=by rw[<-bA,hops];rfl
 have hdst:=yQ hd ho
 have hlt:=aEI (A0:=A0) hA0 hk
 rw[List.range_eq_range',hlen,List.range'_succ,wpOps_cons]
 unfold wpOp
 rw[ho]
 have hw:Region.wanted o (yielded ops a.tmps)=true:=by unfold Region.wanted;rw[hgd]
 simp only[hw,if_true]
 left
 have hHof:∀id B A',bK H (jA A0 kb k) id=some (B,A')->A'=jA A0 kb k:=λ id B A' hH=>by simp only[bK,aB]at hH;obtain⟨B',_,he⟩:=hH;cases he;rfl
 refine hN.ok w G ρ (bK H (jA A0 kb k)) (jA A0 kb k) a hi.rel hlt (λ id hid=>?_) (λ x _ v hv=>VF hi hv) _ (Post Γ nt A0 kb w G ρ Q) (λ out hout w' G' ρ' cv hrel hv hst=>?_)
 · obtain⟨B,hB⟩:=fK.1 (hN.rds id hid)
   exact⟨B,jA A0 kb k,hB,by simp only[bK,hB,cB],λ _ h=>h⟩
 · have hst':Step (kN kb) w G ρ w' G' ρ':=⟨hst.size,hst.keep,hst.shape,hst.g,hst.g',hst.own,λ j hj=>hst.ids j (λ hc=>by simp only[kN]at hj;omega),hst.os,hst.tape,hst.output⟩
   rw[aUG A0 kb k k hk (aF _)]at hrel hv
   refine PU (kb:=kb) (Q':=Post Γ nt A0 kb w G ρ Q) hd hA0 r 1 (λ j=>by rw[<-bA,hops,bFX];rfl) k _ _ _ hk (h out hout) w' G' ρ' (a.put o.dst cv)
    ⟨?_,by rw[zV];exact hi.size,by rw[tX];exact hi.defers,λ t v hv'=>?_⟩ hst' (λ tr k' fr' H' G' ρ' a' w' hK hk' hi' hs'=>⟨G',ρ',k',fr',H',hK hk',hk',hi',hs'⟩)
   · refine hrel.allow _ (λ id hid=>?_) (λ id B A' hid=>?_)
     · simp only[bK,dG]at hid
       rw[mD]at hid
       rw[mQ]
       split at hid
       · rename_i x hx;rw[hid];rfl
       · rename_i hx;simp only[bK,hid,oC]
     · simp only[bK,aB]at hid
       obtain⟨B',hB',he⟩:=hid
       cases he
       rw[mD]at hB'
       rw[mQ]
       split at hB'
       · rename_i x hx;rw[hB'];exact⟨jA A0 kb k,rfl,λ _ h=>h⟩
       · rename_i hx;exact⟨jA A0 kb k,by simp only[bK,hB',cB],λ _ h=>h⟩
   · rw[tI]at hv'
     rw[zW a o.dst cv t (λ x hx=>by rw[hi.size];exact hdst x hx)]
     split at hv'
     · rename_i he;cases hv';rw[if_pos he];exact hv
     · rename_i hne;rw[if_neg hne]
       exact(hi.frm t v hv').step hi.rel hst (λ j hj hc=>by have:=hlt j hj;omega) (λ _ h=>h)
def lE(l:lL)(seen:List Nat):lL:=l.filter λ e=> !seen.contains e.2.2
theorem QI{mid it since c0 clock:Nat}{q:IntKind}{x:Operand}{l:lL}{seen:List Nat}(ho:o.op= .next x false)(hx:ev x=some (.it it))(hI:get it=some (jP mid since seen c0))(hB:get mid=some (mO q l clock))
 (hold:∀e∈l,e.2.2<since) (hsc:since<=c0):
 GoodN P Γ o ev get k [it,mid] (λ out=>(lE l seen=[]/\out=⟨.tup [.lit (.bool false)],k,[],[it,mid]⟩)∨
   ∃e,e∈lE l seen/\out=⟨.tup [.lit (.bool true),.lit (.int q e.1),.lit e.2.1],k,[(it,some (jP mid since (seen++[e.2.2]) clock))],[it,mid]⟩):=by
 refine⟨λ w G ρ H A a hr hA hrd hop next Q hN=>?_,λ i hi=>by
  simp at hi;rcases hi with rfl|rfl;.rw[hI];rfl
  rw[hB];rfl,λ out h=>by rcases h with⟨_,rfl⟩|⟨_,_,rfl⟩<;>rfl⟩
 have hvx:=hop x (by simp[ho,Op.operands]) _ hx;obtain⟨B1,A1,h2,hH1,hAA1⟩:=hrd it sS;rw[hI]at h2;cases h2;obtain⟨B2,A2,h2,hH2,hAA2⟩:=hrd mid sS;rw[hB]at h2;cases h2;obtain⟨hA1,b,hb,_,hBR1⟩:=hr.blk it _ A1 hH1;obtain⟨hA2,bm,hbm,_,hBR2⟩:=hr.blk mid _ A2 hH2;generalize hev:a.eval x=cv at hvx
 cases hvx with
 |dangi _ hn'=>rw[hb]at hn';cases hn'
 |it ha hρ hsh=>
  rw[hb]at hρ;cases hρ;obtain⟨hit,hshm⟩:=aGM hBR1 hsh hbm;obtain⟨es,hes,hel⟩:=GQ hBR2 hshm;have hne:b≠bm:=λ h=>by rw[h,hes]at hit;cases hit
  have hmem:∀y,y∈es.toList↔∃e∈l,sY q e=y:=λ y=>by rw[hel];simp
  have hfil:(leftOf es seen.toArray).toList=(lE l seen).map (sY q):=by unfold leftOf lE;rw[Array.toList_filter,hel,List.filter_map];congr 1;apply bAO;intro e _;simp[sY,Function.comp]
  have hupd0:iR H (λ i=>A i\/(k<=i/\i<k)) []=H:=rfl;have hAk:∀i,A i->(A i\/(k<=i/\i<k)):=λ _ h=> .inl h;rcases run_next_at (P:=P) w o.type b bm since c0 seen.toArray es clock hit hes (λ y hy=>by obtain⟨e,he,rfl⟩:=(hmem y).1 hy;exact hold e he) hsc with⟨h0,hrun⟩|⟨e',he',w1,hal,hrun⟩
  .have hnil:lE l seen=[]:=by
    have h3:(leftOf es seen.toArray).toList.length=0:=by simpa using h0
    rw[hfil,bP]at h3;exact List.length_eq_zero_iff.1 h3
   unfold Oper.wp;have hrun':(execOp a.eval o).run P w= .ok (.value (.tuple #[.bool false])) w:=by simp[execOp,ho,hev,hrun]
   rw[hrun'];refine hN _ (.inl ⟨hnil,rfl⟩) w G ρ _ ?_ (.tup rfl λ j v hj=>?_) (jT _ _ _ _);.exact hr
   match j,hj with
   |0,hj=>cases hj;exact .lit
   |j+1,hj=>simp at hj
  rw[hfil]at he';obtain⟨e,he,rfl⟩:=cL.1 he';have hw1:w1.heap=w.heap/\w1.os=w.os/\w1.tape=w.tape/\w1.output=w.output:=by rcases hal with rfl|rfl<;>exact⟨rfl,rfl,rfl,rfl⟩
  unfold Oper.wp;have hrun':(execOp a.eval o).run P w= .ok (.value (.tuple #[.bool true,(sY q e).key,(sY q e).val])) (ChangeMaps.setBlock w1 b (.mapIter (some bm) since (seen.toArray.push (sY q e).born) clock)):=by simp[execOp,ho,hev,hrun]
  rw[hrun'];have hbl:b<w.heap.size:=(cZ.1 hit).1;have hheap:(ChangeMaps.setBlock w1 b (.mapIter (some bm) since (seen.toArray.push (sY q e).born) clock)).heap=w.heap.setIfInBounds b (.mapIter (some bm) since (seen.toArray.push (sY q e).born) clock):=by simp[ChangeMaps.setBlock,hw1.1]
  generalize hw':ChangeMaps.setBlock w1 b (.mapIter (some bm) since (seen.toArray.push (sY q e).born) clock)=w' at hheap;have hos:w'.os=w.os/\w'.tape=w.tape/\w'.output=w.output:=by rw[<-hw'];exact hw1.2
  have hnew:w'.heap[b]? =some (.mapIter (some bm) since (seen++[e.2.2]).toArray clock):=by rw[hheap];simp[hbl,sY]
  have hoth:∀j,j≠b->w'.heap[j]? =w.heap[j]? :=λ j hj=>by rw[hheap,kR (Ne.symm hj)]
  have hvm:V w G ρ A (.mp mid) (.map (some bm)):= .mp (hAA2 _ hA2) hbm hshm;have hrows:=XZ (since:=since) (c0:=clock) (seen:=seen++[e.2.2]) hvm
  obtain⟨g1,g2⟩:=hr.rewriteO (B:=jP mid since seen c0) hb it (.inl rfl) (jP mid since (seen++[e.2.2]) clock) rfl _ (.mapIter (some bm) since (seen++[e.2.2]).toArray clock) .iter A (λ i=>A i\/(k<=i/\i<k)) (.inl rfl) hAk (.inl (hAA1 _ hA1))
   w' hnew hoth (by rw[hheap];simp) (by simp[BA,hnew,hit]) hos.1 hos.2.1 hos.2.2 hrows.1 hrows.2
  have hnm:dT (dT ρ it none) it (some (b,3))=ρ:=funext λ i=>by
   simp only[dT];split;.rename_i h9;rw[h9,hb];rfl
   rfl
  rw[show(jP mid since seen c0).sz=3 from rfl,hnm]at g1 g2;have hup:iR H (λ i=>A i\/(k<=i/\i<k)) [(it,some (jP mid since (seen++[e.2.2]) clock)),(it,none)]=iR H (λ i=>A i\/(k<=i/\i<k)) [(it,some (jP mid since (seen++[e.2.2]) clock))]:=funext λ i=>by simp only[iR];split<;>simp_all
  rw[hup]at g1;refine hN _ (.inr ⟨e,he,rfl⟩) w' G ρ _ g1 (.tup rfl λ j v hj=>?_) ⟨g2.size,g2.keep,g2.shape,g2.g,g2.g',g2.own,λ i _=>g2.ids i (Or.inr rfl),g2.os,g2.tape,g2.output⟩
  match j,hj with
  |0,hj=>cases hj;exact .lit
  |1,hj=>cases hj;exact .lit
  |2,hj=>cases hj;exact .lit
  |j+3,hj=>simp at hj
theorem MV{mid it since clock:Nat}{q:IntKind}{x:Operand}{l:lL}{seen:List Nat}{e:Int×Value×Nat}(ho:o.op= .entry x)(hx:ev x=some (.it it))(hI:get it=some (jP mid since (seen++[e.2.2]) clock))
 (hB:get mid=some (mO q l clock)) (he:e∈l) (hn:(l.map (·.2.2)).Nodup):Good P Γ o ev get k ⟨.tup [.lit (.int q e.1),.lit e.2.1],k,[],[it,mid]⟩:=by
 refine⟨cE λ w G ρ H A a hr hrd hop=>?_,λ i hi=>by
  simp at hi;rcases hi with rfl|rfl;.rw[hI];rfl
  rw[hB];rfl,aF _⟩
 have hvx:=hop x (by simp[ho,Op.operands]) _ hx;obtain⟨B1,A1,h2,hH1,_⟩:=hrd it sS;rw[hI]at h2;cases h2;obtain⟨B2,A2,h2,hH2,_⟩:=hrd mid sS;rw[hB]at h2;cases h2;obtain⟨_,b,hb,_,hBR1⟩:=hr.blk it _ A1 hH1;obtain⟨_,bm,hbm,_,hBR2⟩:=hr.blk mid _ A2 hH2;generalize hev:a.eval x=cv at hvx
 cases hvx with
 |dangi _ hn'=>rw[hb]at hn';cases hn'
 |it ha hρ hsh=>
  rw[hb]at hρ;cases hρ;obtain⟨hit,hshm⟩:=aGM hBR1 hsh hbm;obtain⟨es,hes,hel⟩:=GQ hBR2 hshm;have hrun:=run_entry_at (P:=P) w b bm since seen.toArray es clock (sY q e) (by rw[hit];simp[sY]) hes (by rw[hel];exact cL.2 ⟨e,he,rfl⟩) (by rw[hel,jD];exact hn);refine⟨.tuple #[.int q e.1,e.2.1],by simp[execOp,ho,hev,hrun,sY],.tup rfl λ j v hj=>?_⟩
  match j,hj with
  |0,hj=>cases hj;exact .lit
  |1,hj=>cases hj;exact .lit
  |j+2,hj=>simp at hj
end
end Go.AM
end
section
namespace Go.Proofs.T
open Go Go.AM Go.Proofs
variable{Γ:List (Nat×List AVal)}
structure DelR where
 (n0 n1 n2 n3 n4 n5:Nat)
 (f0 f1 f2 f3 f4 f5:Nat->List AVal)
def DelR.cells (d:DelR):List AVal:=[.rd 2 d.n0 d.f0,.rd 2 d.n1 d.f1,.rd 2 d.n2 d.f2,.rd 1 d.n3 d.f3,.rd 8 d.n4 d.f4,.rd 5 d.n5 d.f5]
def DelR.size (d:DelR):Nat:=d.n0+d.n1+d.n2+d.n3+d.n4+d.n5
attribute [go_sem] DelR.cells
theorem a1R(d:DelR)(h:d.size<9223372036854775808):AM.Pure aA Γ 26 [.agg d.cells] d.size:=by
 have h':d.n0+d.n1+d.n2+d.n3+d.n4+d.n5<9223372036854775808:=h;refine aZ Tryz.func26 rfl 26 rfl bB rfl λ k=>?_;have kp:=fI k [0,1,2];refine wl ?_;refine aU (zs ?_);refine cR (zN ?_);have e:(d.n0+d.n1+d.n2+d.n3+d.n4+d.n5:Int)=(d.size:Int):=by unfold DelR.size;omega
 rw[e];exact aK _
theorem a9S(k D id:Nat)(hD:D<k)(hid:id<k)(hne:D≠id)(l:List (List AVal))(hl:l.length<=100000)(c1 c2 c3 c4 c5:AVal)(i x:Int)
 (e1:iC (kW (k+2)) c1=true) (e2:iC (kW (k+2)) c2=true) (e3:iC (kW (k+2)) c3=true) (e4:iC (kW (k+2)) c4=true) (e5:iC (kW (k+2)) c5=true):
 Tr aA Γ 54 k [i,x,.ptr D 0 0] (cA id 2 l [(D,⟨6,false,[[bV id l,c1,c2,c3,c4,c5]]⟩)]) (λ k1 r1 H1=>k1=k+2/\r1= .tup []/\H1=[(k+1,⟨2,true,l++[[.lit (.int .i64 i),.lit (.int .i64 x)]]⟩),(D,⟨6,false,[[.sl (k+1) 0 (l.length+1),c1,c2,c3,c4,c5]]⟩)]):=by obtain⟨a1,a2,a3,a4,a5,a6⟩:=dW hD;obtain⟨b1,b2,b3,b4,b5,b6⟩:=dW hid;obtain⟨d1,d2⟩:=iE hne;refine iD Tryz.func54 rfl 13 rfl bB (pS ?_);have kp:Kp [0,1,2] (λ i=>if i=D then 0 else if i=id then 1 else i-k+2):=vD;have uU:=eQ @a1 @a2 @a3 @a4 @a5 @a6 @b1 @b2 (eQ @b3 @b4 @b5 @b6 @d1 @d2 @e1 @e2 (AW @e3 @e4 @e5));refine wl ?_;refine aU (zs ?_);refine⟨k+2,[],_,?_,_,rfl,rfl,rfl,rfl⟩;(have uU:=eQ @a1 @a2 @a3 @a4 @a5 @a6 @b1 @b2 (eQ @b3 @b4 @b5 @b6 @d1 @d2 @e1 @e2 (AW @e3 @e4 @e5));exact oZ)
theorem a9R(k D id:Nat)(hD:D<k)(hid:id<k)(hne:D≠id)(l:List (List AVal))(hl:l.length<=100000)(c1 c2 c3 c4 c5:AVal)(i x:Int)
 (e1:iC (kW (k+2)) c1=true) (e2:iC (kW (k+2)) c2=true) (e3:iC (kW (k+2)) c3=true) (e4:iC (kW (k+2)) c4=true) (e5:iC (kW (k+2)) c5=true):
 Tr aA Γ 55 k [i,x,.ptr D 0 0] (cA id 2 l [(D,⟨6,false,[[c1,bV id l,c2,c3,c4,c5]]⟩)]) (λ k1 r1 H1=>k1=k+2/\r1= .tup []/\H1=[(k+1,⟨2,true,l++[[.lit (.int .i64 i),.lit (.int .i64 x)]]⟩),(D,⟨6,false,[[c1,.sl (k+1) 0 (l.length+1),c2,c3,c4,c5]]⟩)]):=by obtain⟨a1,a2,a3,a4,a5,a6⟩:=dW hD;obtain⟨b1,b2,b3,b4,b5,b6⟩:=dW hid;obtain⟨d1,d2⟩:=iE hne;refine iD Tryz.func55 rfl 13 rfl bB (pS ?_);have kp:Kp [0,1,2] (λ i=>if i=D then 0 else if i=id then 1 else i-k+2):=vD;have uU:=eQ @a1 @a2 @a3 @a4 @a5 @a6 @b1 @b2 (eQ @b3 @b4 @b5 @b6 @d1 @d2 @e1 @e2 (AW @e3 @e4 @e5));refine wl ?_;refine aU (zs ?_);refine⟨k+2,[],_,?_,_,rfl,rfl,rfl,rfl⟩;(have uU:=eQ @a1 @a2 @a3 @a4 @a5 @a6 @b1 @b2 (eQ @b3 @b4 @b5 @b6 @d1 @d2 @e1 @e2 (AW @e3 @e4 @e5));exact oZ)
theorem a9Q(k D id:Nat)(hD:D<k)(hid:id<k)(hne:D≠id)(l:List (List AVal))(hl:l.length<=100000)(c1 c2 c3 c4 c5:AVal)(i p x:Int)
 (e1:iC (kW (k+3)) c1=true) (e2:iC (kW (k+3)) c2=true) (e3:iC (kW (k+3)) c3=true) (e4:iC (kW (k+3)) c4=true) (e5:iC (kW (k+3)) c5=true):
 Tr aA Γ 57 k [i,.agg [p,x],.ptr D 0 0] (cA id 2 l [(D,⟨6,false,[[c1,c2,bV id l,c3,c4,c5]]⟩)]) (λ k1 r1 H1=>k1=k+3/\r1= .tup []/\H1=[(k+2,⟨2,true,l++[[.lit (.int .i64 i),.lit (.int .i64 x)]]⟩),(D,⟨6,false,[[c1,c2,.sl (k+2) 0 (l.length+1),c3,c4,c5]]⟩)]):=by obtain⟨a1,a2,a3,a4,a5,a6⟩:=dW hD;obtain⟨b1,b2,b3,b4,b5,b6⟩:=dW hid;obtain⟨d1,d2⟩:=iE hne;refine iD Tryz.func57 rfl 14 rfl bB (pS ?_);have kp:Kp [0,1,2,4] (λ i=>if i=D then 0 else if i=id then 1 else i-k+2):=vD;have uU:=eQ @a1 @a2 @a3 @a4 @a5 @a6 @b1 @b2 (eQ @b3 @b4 @b5 @b6 @d1 @d2 @e1 @e2 (AW @e3 @e4 @e5));refine wl ?_;refine aU (zs ?_);refine⟨k+3,[],_,?_,_,rfl,rfl,rfl,rfl⟩;(have uU:=eQ @a1 @a2 @a3 @a4 @a5 @a6 @b1 @b2 (eQ @b3 @b4 @b5 @b6 @d1 @d2 @e1 @e2 (AW @e3 @e4 @e5));exact oZ)
theorem a9P(k D E id:Nat)(hD:D<k)(hid:id<k)(hne:D≠id)(hE:E<k)(hDE:D≠E)(hEi:E≠id)(l:List (List AVal))(hl:l.length<=100000)(c1 c2 c3 c4 c5:AVal)(g i v r f:Int)
 (e1:iC (kW (k+3)) c1=true) (e2:iC (kW (k+3)) c2=true) (e3:iC (kW (k+3)) c3=true) (e4:iC (kW (k+3)) c4=true) (e5:iC (kW (k+3)) c5=true):
 Tr aA Γ 60 k [i,.agg [.lit (.int .u64 v),.lit (.int .u32 r),.lit (.int .u64 f)],.ptr D 0 0,.ptr E 0 0] (cA id 5 l [(D,⟨6,false,[[c1,c2,c3,c4,c5,bV id l]]⟩),(E,⟨1,true,[[g]]⟩)]) (λ k1 r1 H1=>k1=k+3/\r1= .tup []/\H1=[(k+2,⟨5,true,l++[[.lit (.int .i64 g),.lit (.int .i64 i),.lit (.int .u64 v),.lit (.int .u32 r),.lit (.int .u64 f)]]⟩),(D,⟨6,false,[[c1,c2,c3,c4,c5,.sl (k+2) 0 (l.length+1)]]⟩),(E,⟨1,true,[[.lit (.int .i64 g)]]⟩)]):=by obtain⟨a1,a2,a3,a4,a5,a6⟩:=dW hD;obtain⟨b1,b2,b3,b4,b5,b6⟩:=dW hid;obtain⟨d1,d2⟩:=iE hne;obtain⟨g1,g2,g3,g4,g5,g6⟩:=dW hE;obtain⟨d3,d4⟩:=iE hDE;obtain⟨d5,d6⟩:=iE hEi;refine iD Tryz.func60 rfl 15 rfl bB (pS ?_);have kp:Kp [0,1,2,3,5] (λ i=>if i=D then 0 else if i=id then 1 else if i=E then 2 else i-k+3):=vD;have uU:=eQ @a1 @a2 @a3 @a4 @a5 @a6 @b1 @b2 (eQ @b3 @b4 @b5 @b6 @d1 @d2 @g1 @g2 (eQ @g3 @g4 @g5 @g6 @d3 @d4 @d5 @d6 (xY @e1 @e2 @e3 @e4 @e5)));refine wl ?_;refine aU (zs ?_);refine⟨k+3,[],_,?_,_,rfl,rfl,rfl,rfl⟩;(have uU:=eQ @a1 @a2 @a3 @a4 @a5 @a6 @b1 @b2 (eQ @b3 @b4 @b5 @b6 @d1 @d2 @g1 @g2 (eQ @g3 @g4 @g5 @g6 @d3 @d4 @d5 @d6 (xY @e1 @e2 @e3 @e4 @e5)));exact oZ)
def fC{α:Type}(f:Nat->List α):Nat->List α
 |0=>[]
 |n+1=>fC f n++f n
theorem lG{α:Type}{f:Nat->List α}:fC f 0=[]:=rfl
theorem kL{α:Type}{f:Nat->List α}{n:Nat}:fC f (n+1)=fC f n++f n:=rfl
theorem jH{α:Type}{f:Nat->List α}{m:Nat}(h:∀i,(f i).length<=m):∀n,(fC f n).length<=n*m
 |0=>by simp[fC]
 |n+1=>by have:=jH h n;have:=h n;simp only[fC,bQ,cX,aMJ];omega
theorem mE{α:Type}{f g:Nat->List α}:∀ {n:Nat},(∀i,i<n->f i=g i)->fC f n=fC g n
 |0,_=>rfl
 |n+1,h=>by rw[fC,fC,mE (λ i hi=>h i oO),h n oO]
def uG{α:Type}(b:Bool)(x:α):List α:=if b=true then [x]else []
theorem EN{α:Type}(b:Bool)(x:α):(uG b x).length<=1:=by unfold uG;split<;>simp
structure Dl where
 ck:List (Int×Int)
 cu:List (Int×Int)
 wg:List (Int×Int)
 gn:List Int
 tk:List Tk
 sp:List (Int×Int×Sp)
def jM(x:Int×Int):List AVal:=[.lit (.int .i64 x.1),.lit (.int .i64 x.2)]
def nR(n:Int):List AVal:=[.lit (.int .i64 n)]
def tR(t:Tk):List AVal:=[.lit (.int .i64 t.id),.lit (.int .i64 t.group),.lit (.int .i64 t.weight),.lit (.int .i64 t.cpu),.lit (.int .u64 t.mask),.lit (.bool t.ready),.lit (.int .u64 t.v),.lit (.int .u32 t.r)]
def pR(x:Int×Int×Sp):List AVal:=[.lit (.int .i64 x.1),.lit (.int .i64 x.2.1),.lit (.int .u64 x.2.2.v),.lit (.int .u32 x.2.2.r),.lit (.int .u64 x.2.2.floor)]
def Dl.cells (d:Dl):List AVal:=[rows 2 (d.ck.map jM),rows 2 (d.cu.map jM),rows 2 (d.wg.map jM),rows 1 (d.gn.map nR),rows 8 (d.tk.map tR),rows 5 (d.sp.map pR)]
def fG(a b:Nat->Int)(i:Nat):List (Int×Int):=uG (b i !=a i) ((i:Int),b i)
def vE(a b:St)(i:Nat):List (Int×Int):=uG (decide (¬(a.par i=b.par i/\a.wt i=b.wt i))) ((i:Int),b.wt i)
def wO(x y:Sp):Bool:=decide (¬(x.v=y.v/\x.r=y.r/\x.floor=y.floor))
def jN(a b:St)(g i:Nat):List (Int×Int×Sp):=uG (wO (a.sp g i) (b.sp g i)) ((g:Int),(i:Int),b.sp g i)
end Go.Proofs.T
end
section
namespace Go.Proofs.T
open Go Go.AM Go.Proofs
def zI(s:St):Prop:=∀i j,i<j->j<s.nt->(s.tsk i).id<(s.tsk j).id
structure IdOk (s:St):Prop where
 st:zI s
 lo:∀i,i<s.nt->1<=(s.tsk i).id
 hi:∀i,i<s.nt->(s.tsk i).id<=65535
theorem MN{f:Nat->List Flt}{n:Nat}(h:(bF f n).length=0):∀i,i<n->(f i).length=0:=λ i hi=>by
 cases hf:f i with
 |nil=>rfl
 |cons x l=>have hm:x∈bF f n:=mem_flats.2 ⟨i,hi,by rw[hf];simp⟩;rw[fL h]at hm;cases hm
theorem aKL{b:Bool}{f:Flt}(h:(gJ b f).length=0):b=false:=by
 cases b;.rfl
 simp[gJ]at h
theorem BL{s:St}(h:(bW s).length=0):IdOk s:=by
 have hp:(jG s).length=0:=by
  unfold bW at h;split at h;.simp at h
  split at h;.omega
  split at h<;>omega
 have hb:(bF (AR s) 7).length=0:=by unfold jG at hp;simp only[bQ]at hp;omega
 have hr:∀r:Nat,r<7->∀i,i<s.nt->VZ s i ((r:Int)+4)=false:=λ r hr i hi=>by have h1:=MN hb r hr;have h2:=MN (f:=oJ s r) (n:=s.nt) h1 i hi;exact aKL h2
 have h4:∀i,i<s.nt->t4 s i=false:=λ i hi=>by have:=hr 0 oO i hi;rwa [a9Z oO]at this
 have h5:∀i,i<s.nt->t5 s i=false:=λ i hi=>by have:=hr 1 oO i hi;rwa [a9Y oO]at this
 have hadj:∀i,i+1<s.nt->(s.tsk i).id<(s.tsk (i+1)).id:=λ i hi=>by have h9:=h4 (i+1) hi;simp only[t4,iA,dFn,rN]at h9;omega
 refine⟨λ i j hij=>?_,λ i hi=>?_,λ i hi=>?_⟩
 .induction j with
  |zero=>omega
  |succ j ih=>
   intro hj;have h1:=hadj j hj;by_cases he:i=j;.subst he;exact h1
   have:=ih oO oO;omega
 .have:=h5 i hi;simp only[t5,dFn]at this;omega
 have:=h5 i hi;simp only[t5,dFn]at this;omega
def idB(s:St)(n:Nat)(x:Int):Bool:=jI (λ j=>(s.tsk j).id==x) n
def xI(s:St)(x:Int):Option Nat:=f0 (λ j=>(s.tsk j).id==x) s.nt
def aAO(x y:Tk):Bool:=decide (¬(x.id=y.id/\x.group=y.group/\x.weight=y.weight/\x.cpu=y.cpu/\x.mask=y.mask/\x.ready=y.ready/\x.v=y.v/\x.r=y.r))
def qZ(a b:St)(i:Nat):List Int:=uG (!(idB b b.nt (a.tsk i).id)) (a.tsk i).id
def aJW(a b:St)(i:Nat):Bool:=match xI a (b.tsk i).id with
 |none=>true
 |some j=>aAO (a.tsk j) (b.tsk i)
def iG(a b:St)(i:Nat):List Tk:=uG (aJW a b i) (b.tsk i)
def tkV(t:Tk):Value:= .agg #[.int .i64 t.id,.int .i64 t.group,.int .i64 t.weight,.int .i64 t.cpu,.int .u64 t.mask,.bool t.ready,.int .u64 t.v,.int .u32 t.r]
def oH(a:St)(n:Nat):lL:=(aM n).map λ j=>((a.tsk j).id,tkV (a.tsk j),j)
theorem KK{a:St}{n:Nat}:oH a (n+1)=oH a n++[((a.tsk n).id,tkV (a.tsk n),n)]:=by unfold oH;rw[CI,aH];rfl
theorem mem_tEnts{a:St}{n:Nat}{e:Int×Value×Nat}:e∈oH a n↔∃j,j<n/\e=((a.tsk j).id,tkV (a.tsk j),j):=by unfold oH;rw[cL];exact⟨λ⟨j,h1,h2⟩=>⟨j,dO.1 h1,h2.symm⟩,λ⟨j,h1,h2⟩=>⟨j,dO.2 h1,h2.symm⟩⟩
theorem aII{a:St}(h:zI a){n:Nat}(hn:n<a.nt):∀e∈oH a n,e.1≠(a.tsk n).id:=λ e he=>by obtain⟨j,hj,rfl⟩:=mem_tEnts.1 he;have:=h j n hj hn;simp only;omega
theorem SI{x:Int}(h1:1<=x)(h2:x<=65535):wfK .i64 x=true:=by
 have e1:aN.min= -9223372036854775808:=by decide
 have e2:aN.max=9223372036854775807:=by decide
 simp[wfK,Lit.wf,e1,e2];omega
theorem WD{a:St}(h:IdOk a){n:Nat}(hn:n<=a.nt):∀e∈oH a n,wfK .i64 e.1=true:=λ e he=>by obtain⟨j,hj,rfl⟩:=mem_tEnts.1 he;exact SI (h.lo j oO) (h.hi j oO)
def IW(a b:St)(i:Nat):lL:=(oH a a.nt).filter λ e=> !(idB b i e.1)
theorem aQE{a b:St}:IW a b 0=oH a a.nt:=vK.2 λ e he=>rfl
theorem aQG{a b:St}{i:Nat}:IW a b (i+1)=MY (IW a b i) (b.tsk i).id:=by unfold IW MY;rw[List.filter_filter];apply bAO;intro e _;rw[idB,jI,Bool.not_or,Bool.and_comm];congr 1;rw[show((b.tsk i).id==e.1)=(e.1==(b.tsk i).id)from aY.2 (by simp only[beq_iff_eq];exact⟨Eq.symm,Eq.symm⟩)]
theorem aGI{a b:St}{i:Nat}{e:Int×Value×Nat}(he:e∈IW a b i):∃j,j<a.nt/\e=((a.tsk j).id,tkV (a.tsk j),j):=mem_tEnts.1 (jY.1 he).1
theorem aQF{a b:St}(h:IdOk a){i:Nat}:∀e∈IW a b i,wfK .i64 e.1=true:=λ e he=>WD h (aF _) e (jY.1 he).1
theorem aAQ{a:St}(h:zI a):FL (oH a a.nt):=by unfold FL oH;rw[jD];unfold List.Nodup;rw[pV];refine oG.imp_of_mem (λ {x y} hx hy hxy=>?_) a6D;have:=h x y hxy (dO.1 hy);simp only[Function.comp];omega
theorem LX{a b:St}(h:zI a){i:Nat}:FL (IW a b i):=
 List.Nodup.sublist (List.Sublist.map _ List.filter_sublist) (aAQ h)
theorem aCC{a b:St}{i:Nat}:((IW a b i).map (·.2.2)).Nodup:=by refine List.Nodup.sublist (List.Sublist.map _ List.filter_sublist) ?_;unfold oH;rw[jD];have:((λ x:Int×Value×Nat=>x.2.2)∘λ j=>((a.tsk j).id,tkV (a.tsk j),j))=id:=rfl;rw[this,List.map_id];exact List.nodup_range
theorem aXH{a b:St}{i:Nat}:∀e∈IW a b i,e.2.2<a.nt:=λ e he=>by obtain⟨j,hj,rfl⟩:=aGI he;exact hj
theorem BP{f:Nat->Bool}:∀ {n:Nat} {i:Nat},f0 f n=some i->i<n/\f i=true
 |0,i,h=>by simp[f0]at h
 |n+1,i,h=>by
  rw[f0]at h;split at h;.rename_i j hj;cases h;have:=BP hj;exact⟨oO,this.2⟩
  split at h;.cases h;exact⟨oO,by assumption⟩
  cases h
theorem xL{f:Nat->Bool}:∀ {n:Nat},f0 f n=none->∀i,i<n->f i=false
 |0,_,i,hi=>absurd hi oO
 |n+1,h,i,hi=>by
  rw[f0]at h;split at h;.cases h
  split at h;.cases h
  rename_i h1 h2;by_cases he:i=n;.subst he;simpa using h2
  exact xL h1 i oO
theorem aQH{a b:St}(ha:zI a)(hb:zI b){i:Nat}(hi:i<b.nt):yZ (IW a b i) (b.tsk i).id=(xI a (b.tsk i).id).map λ j=>tkV (a.tsk j):=by
 cases hf:xI a (b.tsk i).id with
 |none=>have h:=xL hf;rw[MQ λ e he=>?_];rfl;obtain⟨j,hj,rfl⟩:=aGI he;have:=h j hj;simpa using this
 |some j=>
  obtain⟨hj,he⟩:=BP hf;simp only[beq_iff_eq]at he;have hm:((a.tsk j).id,tkV (a.tsk j),j)∈IW a b i:=jY.2 ⟨mem_tEnts.2 ⟨j,hj,rfl⟩,by rw[aT];exact rI λ q hq=>by have:=hb q i hq hi;simp only[beq_eq_false_iff_ne];omega⟩
  obtain⟨q,hq⟩:=List.mem_iff_getElem?.1 hm;rw[MP (LX ha) hq he];rfl
def yI(a b:St):List Int:=fC (qZ a b) a.nt
theorem XV{a b:St}:(IW a b b.nt).map (·.1)=yI a b:=by
 have h:∀n,((oH a n).filter λ e=> !(idB b b.nt e.1)).map (·.1)=fC (qZ a b) n:=λ n=>by
  induction n with
  |zero=>rfl
  |succ n ih=>
   rw[KK,KA,aH,ih,kL,qZ,uG];cases h: !(idB b b.nt (a.tsk n).id);all_goals(simp only[bKI,h])
   all_goals(first|rfl|simp)
 exact h a.nt
theorem YF{a b:St}(h:zI a):(yI a b).Pairwise (λ x y=>x<=y):=by
 rw[<-XV];rw[pV];have h1:(oH a a.nt).Pairwise (λ x y=>x.1<=y.1):=by unfold oH;rw[pV];refine oG.imp_of_mem (λ {x y} hx hy hxy=>?_) a6D;have:=h x y hxy (dO.1 hy);simp only;omega
 exact h1.filter _
theorem aTA{l:lL}:lE l []=l:=vK.2 λ e _=>rfl
theorem aND{l:lL}(hn:(l.map (·.2.2)).Nodup){e:Int×Value×Nat}(he:e∈l):l.Perm (e::l.filter λ x=> !(x.2.2==e.2.2)):=by
 induction l with
 |nil=>cases he
 |cons a l ih=>
  simp only[bG,List.nodup_cons]at hn;rcases jK.1 he with rfl|h1;.rw[List.filter_cons_of_neg sS,vK.2 λ x hx=>by have:x.2.2≠e.2.2:=λ h=>hn.1 (h▸cL.2 ⟨x,hx,rfl⟩);simpa using this]
  have hne:a.2.2≠e.2.2:=λ h=>hn.1 (h▸cL.2 ⟨e,h1,rfl⟩);rw[List.filter_cons_of_pos (by simpa using hne)];exact((ih hn.2 h1).cons a).trans (fV.swap _ _ _)
theorem RP{l:lL}(hn:(l.map (·.2.2)).Nodup){seen:List Nat}{e:Int×Value×Nat}(he:e∈lE l seen):(lE l seen).Perm (e::lE l (seen++[e.2.2])):=by
 have h1:lE l (seen++[e.2.2])=(lE l seen).filter λ x=> !(x.2.2==e.2.2):=by unfold lE;rw[List.filter_filter];apply bAO;intro x _;rw[aY];simp only[List.contains_eq_mem,cD,gZ,aC,aT,dFn,beq_eq_false_iff_ne,ne_eq,not_or];exact And.comm
 rw[h1];exact aND (List.Nodup.sublist (List.Sublist.map _ List.filter_sublist) hn) he
def FT(l:lL)(x:List Nat×List Int):Prop:=(x.2++(lE l x.1).map (·.1)).Perm (l.map (·.1))
theorem aCM{l:lL}:FT l ([],[]):=by unfold FT;rw[aTA];exact fV.refl _
theorem aCN{l:lL}(hn:(l.map (·.2.2)).Nodup){seen:List Nat}{acc:List Int}(h:FT l (seen,acc)){e:Int×Value×Nat}(he:e∈lE l seen):FT l (seen++[e.2.2],acc++[e.1]):=by
 unfold FT at*
 simp only at*
 have h1:=(RP hn he).map (·.1);rw[bL];exact(fV.append_left acc h1.symm).trans h
theorem aKQ{l:lL}{seen:List Nat}{acc:List Int}(h:FT l (seen,acc)):acc.length<=l.length:=by have:=fV.length_eq h;simp only[bQ,bP]at this;omega
theorem aKR{l:lL}{seen:List Nat}{acc:List Int}(h:FT l (seen,acc))(h0:lE l seen=[]):(l.map (·.1)).Perm acc:=by unfold FT at h;simp only[h0,aV,aR]at h;exact h.symm
theorem aTB{l:lL}(hn:(l.map (·.2.2)).Nodup){seen:List Nat}{e:Int×Value×Nat}(he:e∈lE l seen):(lE l (seen++[e.2.2])).length<(lE l seen).length:=by have:=(RP hn he).length_eq;simp only[lZ]at this;omega
def HK(a b:St):Dl:=⟨fC (fG a.clk b.clk) a.nk,fC (fG a.cur b.cur) a.nk,fC (vE a b) a.ng,yI a b,fC (iG a b) b.nt,fC (λ g=>fC (jN a b g) a.nk) a.ns⟩
def noDl:Dl:=⟨[],[],[],[],[],[]⟩
def OF(a b:St):Dl:=if pI a b then noDl else if xZ a b a.ng=false then noDl else HK a b
def vF(a b:St):Int:=if pI a b then 350 else if xZ a b a.ng=false then 351 else 0
end Go.Proofs.T
end
section
namespace Go.Proofs.T
open Go Go.AM
section
variable{β:Type}(ne:β->β->Bool)
def dif(now to:Nat->β)(i:Nat):List (Nat×β):=uG (ne (to i) (now i)) (i,to i)
def upd(now:Nat->β)(l:List (Nat×β))(i:Nat):β:=match l.find? (λ x=>x.1==i)with
 |some x=>x.2
 |none=>now i
structure ChOk (N:Nat) (now:Nat->β) (l:List (Nat×β)):Prop where
 inc:l.Pairwise (λ x y=>x.1<y.1)
 lt:∀x∈l,x.1<N
 ne:∀x∈l,ne x.2 (now x.1)=true
variable{ne}
theorem mem_flx{α:Type}{f:Nat->List α}{x:α}:∀ {n:Nat},x∈fC f n↔∃i,i<n/\x∈f i
 |0=>by simp[fC]
 |n+1=>by
  rw[fC,cD,mem_flx];constructor
  .rintro(⟨i,h1,h2⟩|h);.exact⟨i,oO,h2⟩
   exact⟨n,oO,h⟩
  rintro⟨i,h1,h2⟩;by_cases he:i=n;.subst he;exact .inr h2
  exact .inl ⟨i,oO,h2⟩
theorem mem_if1{α:Type}{b:Bool}{x y:α}:x∈uG b y↔b=true/\x=y:=by unfold uG;split<;>simp_all
theorem YM{α:Type}{r:α->α->Prop}{f:Nat->List α}(h1:∀i,(f i).Pairwise r)(h2:∀i j,i<j->∀x∈f i,∀y∈f j,r x y):∀n,(fC f n).Pairwise r
 |0=> .nil
 |n+1=>by rw[fC,aAB];refine⟨YM h1 h2 n,h1 n,λ x hx y hy=>?_⟩;obtain⟨i,hi,hx⟩:=mem_flx.1 hx;exact h2 i n hi x hx y hy
theorem aRG{α:Type}{r:α->α->Prop}(b:Bool)(x:α):(uG b x).Pairwise r:=by unfold uG;split<;>simp
theorem UH(now to:Nat->β)(N:Nat):ChOk ne N now (fC (dif ne now to) N) where
 inc:=YM (λ i=>aRG _ _) (λ i j hij x hx y hy=>by rw[(mem_if1.1 hx).2,(mem_if1.1 hy).2];exact hij) N
 lt x hx:=by obtain⟨i,hi,hx⟩:=mem_flx.1 hx;rw[(mem_if1.1 hx).2];exact hi
 ne x hx:=by obtain⟨i,hi,hx⟩:=mem_flx.1 hx;obtain⟨h1,rfl⟩:=mem_if1.1 hx;exact h1
theorem aMV{N:Nat}{now:Nat->β}{l:List (Nat×β)}(h:l.Pairwise (λ x y=>x.1<y.1)){x:Nat×β}(hx:x∈l):upd now l x.1=x.2:=by
 unfold upd
 cases hf:l.find? (λ y=>y.1==x.1)with
 |none=>have:=List.find?_eq_none.1 hf x hx;simp at this
 |some y=>
  have h1:y.1=x.1:=by have:=List.find?_some hf;simpa using this
  have h2:=List.mem_of_find?_eq_some hf
  have:y=x:=by
   obtain⟨i,hi,ei⟩:=sM.1 h2;obtain⟨j,hj,ej⟩:=sM.1 hx;have hp:=lN.1 h;rcases mH i j with hij|hij|hij;.have:=hp i j hi hj hij;rw[ei,ej]at this;omega
   .subst hij;rw[<-ei,<-ej]
   have:=hp j i hj hi hij;rw[ei,ej]at this;omega
  rw[this]
theorem tT{α:Type}{key:α->Int}{l m:List α}(h1:l.Pairwise (λ x y=>key x<key y))(h2:m.Pairwise (λ x y=>key x<key y))(h:∀x,x∈l↔x∈m):l=m:=by
 have hn:∀ {q:List α},q.Pairwise (λ x y=>key x<key y)->q.Nodup:=λ hq=>hq.imp λ hxy he=>by subst he;omega
 have hp:l.Perm m:=(List.perm_ext_iff_of_nodup (hn h1) (hn h2)).2 h;refine fV.eq_of_pairwise (le:=λ x y=>key x<key y) (λ a b ha hb h3 h4=>oO) h1 h2 hp
theorem aHB(hnn:∀x,ne x x=false){N:Nat}{now:Nat->β}{l:List (Nat×β)}(h:ChOk ne N now l):fC (dif ne now (upd now l)) N=l:=by
 refine tT (key:=λ x=>(x.1:Int)) ((UH now _ N).inc.imp λ hxy=>oO) (h.inc.imp λ hxy=>oO) λ x=>?_;constructor
 .intro hx;obtain⟨i,hi,hx⟩:=mem_flx.1 hx;obtain⟨h1,rfl⟩:=mem_if1.1 hx
  cases hf:l.find? (λ y=>y.1==i)with
  |none=>
   have e:upd now l i=now i:=by unfold upd;rw[hf]
   rw[e,hnn]at h1;cases h1
  |some y=>
   have e:upd now l i=y.2:=by unfold upd;rw[hf]
   have e2:y.1=i:=by have:=List.find?_some hf;simpa using this
   have h2:=List.mem_of_find?_eq_some hf;rw[e,<-e2];exact h2
 intro hx;have e:=aMV (N:=N) (now:=now) h.inc hx;refine mem_flx.2 ⟨x.1,h.lt x hx,mem_if1.2 ⟨by rw[e];exact h.ne x hx,by rw[e]⟩⟩
end
def IdL(l:List Tk):Prop:=l.Pairwise (λ x y=>x.id<y.id)
theorem IdL.uniq {l:List Tk}(h:IdL l){x y:Tk}(hx:x∈l)(hy:y∈l)(he:x.id=y.id):x=y:=by
 obtain⟨i,hi,ei⟩:=sM.1 hx;obtain⟨j,hj,ej⟩:=sM.1 hy;have hp:=lN.1 h;rcases mH i j with hij|hij|hij;.have:=hp i j hi hj hij;rw[ei,ej]at this;omega
 .subst hij;rw[<-ei,<-ej]
 have:=hp j i hj hi hij;rw[ei,ej]at this;omega
def qR(l:List Tk)(x:Int):Prop:=∃t∈l,t.id=x
instance (l:List Tk)(x:Int):Decidable (qR l x):=by unfold qR;infer_instance
def gnL(la lb:List Tk):List Int:=(la.filter λ t=> !decide (qR lb t.id)).map (·.id)
def nwL [DecidableEq Tk](la lb:List Tk):List Tk:=lb.filter λ t=> !decide (t∈la)
def yW(la:List Tk)(gn:List Int)(tk:List Tk):List Tk:=la.filter λ t=> !(gn.contains t.id)&& !decide (qR tk t.id)
def oQ(la:List Tk)(gn:List Int)(tk m:List Tk):Prop:=IdL m/\∀x,x∈m↔x∈tk\/x∈yW la gn tk
structure TkFit (la:List Tk) (gn:List Int) (tk:List Tk):Prop where
 gi:gn.Pairwise (λ x y=>x<y)
 ga:∀x∈gn,qR la x
 gt:∀x∈gn,¬qR tk x
 ti:IdL tk
 ta:∀t∈tk,t∉la
theorem mem_stay{la:List Tk}{gn:List Int}{tk:List Tk}{x:Tk}:x∈yW la gn tk↔x∈la/\x.id∉gn/\¬qR tk x.id:=by unfold yW;simp[jY]
theorem mem_gnL{la lb:List Tk}{x:Int}:x∈gnL la lb↔qR la x/\¬qR lb x:=by
 unfold gnL;simp only[cL,jY,aT,dFn];constructor;.rintro⟨t,⟨h1,h2⟩,rfl⟩;exact⟨⟨t,h1,rfl⟩,h2⟩
 rintro⟨⟨t,h1,rfl⟩,h2⟩;exact⟨t,⟨h1,h2⟩,rfl⟩
theorem aGP{la lb:List Tk}(h:IdL la):(gnL la lb).Pairwise (λ x y=>x<y):=by unfold gnL;rw[pV];exact oG.filter _ h
theorem XH{la:List Tk}{gn:List Int}{tk m n:List Tk}(h1:oQ la gn tk m)(h2:oQ la gn tk n):m=n:=
 tT (key:=λ t:Tk=>t.id) h1.1 h2.1 λ x=>(h1.2 x).trans (h2.2 x).symm
section
variable [DecidableEq Tk]
theorem mem_nwL{la lb:List Tk}{x:Tk}:x∈nwL la lb↔x∈lb/\x∉la:=by unfold nwL;simp[jY]
theorem aFS{la lb:List Tk}(h:IdL lb):IdL (nwL la lb):=oG.filter _ h
theorem aSO{la lb:List Tk}(ha:IdL la)(hb:IdL lb):TkFit la (gnL la lb) (nwL la lb) where
 gi:=aGP ha
 ga x hx:=(mem_gnL.1 hx).1
 gt x hx:=λ⟨t,ht,he⟩=>(mem_gnL.1 hx).2 ⟨t,(mem_nwL.1 ht).1,he⟩
 ti:=aFS hb
 ta t ht:=(mem_nwL.1 ht).2
theorem aDK{la lb:List Tk}(ha:IdL la)(hb:IdL lb):oQ la (gnL la lb) (nwL la lb) lb:=by
 refine⟨hb,λ x=>?_⟩;rw[mem_nwL,mem_stay,mem_gnL];constructor
 .intro hx;by_cases hxa:x∈la;.refine .inr ⟨hxa,λ h=>h.2 ⟨x,hx,rfl⟩,λ⟨t,ht,he⟩=>?_⟩;have:=hb.uniq (mem_nwL.1 ht).1 hx he;subst this;exact(mem_nwL.1 ht).2 hxa
  exact .inl ⟨hx,hxa⟩
 rintro(h|⟨h1,h2,h3⟩);.exact h.1
 by_cases hi:qR lb x.id
 .obtain⟨t,ht,he⟩:=hi;by_cases hta:t∈la;.have:=ha.uniq hta h1 he;subst this;exact ht
  exact absurd ⟨t,mem_nwL.2 ⟨ht,hta⟩,he⟩ h3
 exact absurd ⟨⟨x,h1,rfl⟩,hi⟩ h2
theorem aRS{la:List Tk}{gn:List Int}{tk m:List Tk}(ha:IdL la)(hf:TkFit la gn tk)(hm:oQ la gn tk m):gnL la m=gn/\nwL la m=tk:=by
 have hI:∀x,qR m x↔qR tk x\/(qR la x/\x∉gn):=λ x=>by
  constructor
  .rintro⟨t,ht,rfl⟩;rcases(hm.2 t).1 ht with h|h;.exact .inl ⟨t,h,rfl⟩
   obtain⟨h1,h2,h3⟩:=mem_stay.1 h;exact .inr ⟨⟨t,h1,rfl⟩,h2⟩
  rintro(⟨t,ht,rfl⟩|⟨⟨t,ht,rfl⟩,h2⟩);.exact⟨t,(hm.2 t).2 (.inl ht),rfl⟩
  by_cases hk:qR tk t.id;.obtain⟨u,hu,he⟩:=hk;exact⟨u,(hm.2 u).2 (.inl hu),he⟩
  exact⟨t,(hm.2 t).2 (.inr (mem_stay.2 ⟨ht,h2,hk⟩)),rfl⟩
 constructor
 .refine tT (key:=λ x:Int=>x) (aGP ha) hf.gi λ x=>?_;rw[mem_gnL,hI];constructor;.rintro⟨h1,h2⟩;exact Classical.byContradiction λ h3=>h2 (.inr ⟨h1,h3⟩)
  intro h;exact⟨hf.ga x h,λ h2=>h2.elim (hf.gt x h) λ h3=>h3.2 h⟩
 refine tT (key:=λ t:Tk=>t.id) (aFS hm.1) hf.ti λ x=>?_;rw[mem_nwL,hm.2];constructor
 .rintro⟨h1|h1,h2⟩;.exact h1
  exact absurd (mem_stay.1 h1).1 h2
 intro h;exact⟨.inl h,hf.ta x h⟩
end
end Go.Proofs.T
end
