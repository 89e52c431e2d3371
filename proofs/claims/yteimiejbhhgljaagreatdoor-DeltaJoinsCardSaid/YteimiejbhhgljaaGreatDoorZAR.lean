import Derived.Test.YteimiejbhhgljaaGreatDoorZAQ
import Derived.Shelf.Strconv.Itoa3
import Derived.Shelf.Strconv.AtoiAll
import Derived.Shelf.Strings.Split
import Derived.Shelf.Strings.Cut
import Derived.Shelf.Strings.Search3
import Derived.Shelf.Pu.ParseUintPublic10
import Derived.Test.YteimiejbhhgljaaGreatDoorProg
import Derived.Lib.Walk
import Derived.Lib.ItoaMem
import Derived.WalkKit
import Derived.BigCall
import Derived.BigGuard
import Derived.KernelRfl
import Derived.Lib.ParseIntB
import Derived.HandedShaped
import Derived.Stop.LaidErr
import Derived.LaidSub
import Derived.Shelf.Vars
set_option linter.unusedVariables false
set_option linter.unusedSimpArgs false
set_option maxHeartbeats 0
set_option maxRecDepth 100000
open Array renaming ext->aIG,ext'->bGD,getD_eq_getD_getElem?->aI,getElem?_append_left->fV,getElem?_eq_getElem->aQ,getElem?_eq_some_iff->dA,replicate->wG,size_replicate->aDM
open Bool renaming and_eq_true->aH,eq_false_iff->gB,eq_iff_iff->bH,false->aE,false_eq_true->aS,true->aB
open Int renaming natCast_nonneg->rT
open List renaming getD->oH,getD_eq_getElem?_getD->aR,getElem?_map->aP,getElem_mem->JR,map->rS,map_append->aM,map_cons->bI,map_map->jM,map_nil->bQ,mem_cons->eY,mem_cons_of_mem->dM,range->aN
open Nat renaming add_assoc->gD,add_sub_cancel->a4V,add_sub_cancel_left->lE,beq->sP,eq_of_beq_eq_true->cH,le_of_ble_eq_true->qY,le_refl->aF,le_succ->mF,lt_irrefl->qR,lt_succ_self->cW,mul_one->HW,sub_self->RX,zero_le->aZ
open Option renaming bind_some->bNV,isSome_none->rQ,map_eq_some_iff->aG,none->aC,some->aA
open Go.Result renaming andThen_ok->bG
open Go.Sem renaming run_bind->bN,run_pure->dE
open Go.Proofs.Tryz renaming f13->aLS,isAgg189->HU,isAgg3->RU,isAgg4->aPV,isAgg5->aPU,isAgg50->RT,isAgg9->aPT,prog->aD,sizeOf0->bKO,sizeOf189->AU,sizeOf3->FN,sizeOf4->RS,sizeOf5->RR,sizeOf50->HT,sizeOf9->RQ,underlying0->JN,underlying189->nZ,underlying216->zY,underlying22->YC,underlying238->a4R,underlying3->jT,underlying333->MQ,underlying353->zX,underlying355->zW,underlying4->mB,underlying5->dH,underlying50->lD,underlying9->jC,zeroValue0->RP,zeroValue189->pT,zeroValue22->aLQ,zeroValue3->qV,zeroValue4->wA,zeroValue5->vZ,zeroValue50->sO,zeroValue9->vY
open Go.Value renaming int->bA,okWide->bKN
section
namespace Go.Proofs
open Go.Shelf
def Tryz.layItoa_ren:Go.Shelf.Ren:=⟨λ |171=>216|243=>258|246=>290|283=>293|284=>294|285=>295|286=>296|129=>207|317=>311|318=>312|319=>313|320=>314|337=>319|338=>320|n=>n,λ |3=>3|9=>9|2=>2|4=>4|171=>333|0=>0|53=>22|37=>238|5=>5|173=>335|212=>351|51=>50|20=>20|213=>352|46=>189|232=>363|233=>364|n=>n,λ |17=>3|18=>6|19=>7|n=>n⟩
theorem Tryz.layItoa:Go.Proofs.LaysM.n171 aD Tryz.layItoa_ren:={
 mixed:=by kernel_rfl
 f129:=Tryz.func207.trans AM.iA
 f171:=Tryz.func216.trans AM.iA
 f243:=Tryz.func258.trans AM.iA
 f246:=Tryz.func290.trans AM.iA
 f283:=Tryz.func293.trans AM.iA
 f284:=Tryz.func294.trans AM.iA
 f285:=Tryz.func295.trans AM.iA
 f286:=Tryz.func296.trans AM.iA
 f317:=Tryz.func311.trans AM.iA
 f318:=Tryz.func312.trans AM.iA
 f319:=Tryz.func313.trans AM.iA
 f320:=Tryz.func314.trans AM.iA
 f337:=Tryz.func319.trans AM.iA
 f338:=Tryz.func320.trans AM.iA
 t0:=JN
 a0:=Tryz.isAgg0
 z0:=bKO
 v0:=RP
 t2:=Tryz.underlying2
 a2:=Tryz.isAgg2
 z2:=Tryz.sizeOf2
 v2:=Tryz.zeroValue2
 t3:=jT
 a3:=RU
 z3:=FN
 v3:=qV
 t4:=mB
 a4:=aPV
 z4:=RS
 v4:=wA
 t5:=dH
 a5:=aPU
 z5:=RR
 v5:=vZ
 t9:=jC
 a9:=aPT
 z9:=RQ
 v9:=vY
 t20:=Tryz.underlying20
 a20:=Tryz.isAgg20
 z20:=Tryz.sizeOf20
 v20:=Tryz.zeroValue20
 t37:=a4R
 a37:=Tryz.isAgg238
 z37:=Tryz.sizeOf238
 v37:=Tryz.zeroValue238
 t46:=nZ
 a46:=HU
 z46:=AU
 v46:=pT
 t51:=lD
 a51:=RT
 z51:=HT
 v51:=sO
 t53:=YC
 a53:=Tryz.isAgg22
 z53:=Tryz.sizeOf22
 v53:=aLQ
 t171:=MQ
 a171:=Tryz.isAgg333
 z171:=Tryz.sizeOf333
 v171:=Tryz.zeroValue333
 t173:=Tryz.underlying335
 a173:=Tryz.isAgg335
 z173:=Tryz.sizeOf335
 v173:=Tryz.zeroValue335
 t212:=Tryz.underlying351
 a212:=Tryz.isAgg351
 z212:=Tryz.sizeOf351
 v212:=Tryz.zeroValue351
 t213:=Tryz.underlying352
 a213:=Tryz.isAgg352
 z213:=Tryz.sizeOf352
 t232:=Tryz.underlying363
 a232:=Tryz.isAgg363
 z232:=Tryz.sizeOf363
 v232:=Tryz.zeroValue363
 t233:=Tryz.underlying364
 a233:=Tryz.isAgg364
 z233:=Tryz.sizeOf364
 v233:=Tryz.zeroValue364
 g17:=by kernel_rfl
 g18:=by kernel_rfl
 g19:=by kernel_rfl
 i0:=by kernel_rfl
 i2:=by kernel_rfl
 i3:=by kernel_rfl
 i4:=by kernel_rfl
 i5:=by kernel_rfl
 i9:=by kernel_rfl
 i20:=by kernel_rfl
 i37:=by kernel_rfl
 i46:=by kernel_rfl
 i51:=by kernel_rfl
 i53:=by kernel_rfl
 i171:=by kernel_rfl
 i173:=by kernel_rfl
 i212:=by kernel_rfl
 i232:=by kernel_rfl
 i233:=by kernel_rfl
 m17:=by kernel_rfl
 m18:=by kernel_rfl
 m19:=by kernel_rfl}
def Tryz.layAtoi_ren:Go.Shelf.Ren:=⟨λ |172=>150|244=>220|245=>221|247=>263|279=>264|280=>265|281=>266|282=>267|287=>222|316=>297|171=>216|205=>298|321=>268|322=>269|243=>258|246=>290|283=>293|284=>294|285=>295|286=>296|129=>207|317=>311|318=>312|319=>313|320=>314|337=>319|338=>320|n=>n,λ |9=>9|3=>3|75=>216|76=>217|4=>4|5=>5|167=>313|37=>238|0=>0|85=>314|2=>2|168=>316|53=>22|175=>219|46=>189|210=>339|127=>332|145=>355|143=>353|21=>21|171=>333|173=>335|212=>351|51=>50|20=>20|213=>352|232=>363|233=>364|80=>312|n=>n,λ |15=>0|16=>1|17=>3|18=>6|19=>7|n=>n⟩
theorem Tryz.layAtoi:Go.Proofs.LaysC.n172 aD Tryz.layAtoi_ren:={
 mixed:=by kernel_rfl
 f129:=Tryz.func207.trans AM.iA
 f171:=Tryz.func216.trans AM.iA
 f172:=Tryz.func150.trans AM.iA
 f205:=Tryz.func298.trans AM.iA
 f243:=Tryz.func258.trans AM.iA
 f244:=Tryz.func220.trans AM.iA
 f245:=Tryz.func221.trans AM.iA
 f246:=Tryz.func290.trans AM.iA
 f247:=Tryz.func263.trans AM.iA
 f279:=Tryz.func264.trans AM.iA
 f280:=Tryz.func265.trans AM.iA
 f281:=Tryz.func266.trans AM.iA
 f282:=Tryz.func267.trans AM.iA
 f283:=Tryz.func293.trans AM.iA
 f284:=Tryz.func294.trans AM.iA
 f285:=Tryz.func295.trans AM.iA
 f286:=Tryz.func296.trans AM.iA
 f287:=Tryz.func222.trans AM.iA
 f316:=Tryz.func297.trans AM.iA
 f317:=Tryz.func311.trans AM.iA
 f318:=Tryz.func312.trans AM.iA
 f319:=Tryz.func313.trans AM.iA
 f320:=Tryz.func314.trans AM.iA
 f321:=Tryz.func268.trans AM.iA
 f322:=Tryz.func269.trans AM.iA
 f337:=Tryz.func319.trans AM.iA
 f338:=Tryz.func320.trans AM.iA
 t0:=JN
 a0:=Tryz.isAgg0
 z0:=bKO
 v0:=RP
 t2:=Tryz.underlying2
 a2:=Tryz.isAgg2
 z2:=Tryz.sizeOf2
 v2:=Tryz.zeroValue2
 t3:=jT
 a3:=RU
 z3:=FN
 v3:=qV
 t4:=mB
 a4:=aPV
 z4:=RS
 v4:=wA
 t5:=dH
 a5:=aPU
 z5:=RR
 v5:=vZ
 t9:=jC
 a9:=aPT
 z9:=RQ
 v9:=vY
 t20:=Tryz.underlying20
 a20:=Tryz.isAgg20
 z20:=Tryz.sizeOf20
 v20:=Tryz.zeroValue20
 t21:=Tryz.underlying21
 a21:=Tryz.isAgg21
 z21:=Tryz.sizeOf21
 v21:=Tryz.zeroValue21
 t37:=a4R
 a37:=Tryz.isAgg238
 z37:=Tryz.sizeOf238
 v37:=Tryz.zeroValue238
 t46:=nZ
 a46:=HU
 z46:=AU
 v46:=pT
 t51:=lD
 a51:=RT
 z51:=HT
 v51:=sO
 t53:=YC
 a53:=Tryz.isAgg22
 z53:=Tryz.sizeOf22
 v53:=aLQ
 t75:=zY
 a75:=Tryz.isAgg216
 z75:=Tryz.sizeOf216
 v75:=Tryz.zeroValue216
 t76:=Tryz.underlying217
 a76:=Tryz.isAgg217
 z76:=Tryz.sizeOf217
 v76:=Tryz.zeroValue217
 t85:=Tryz.underlying314
 a85:=Tryz.isAgg314
 z85:=Tryz.sizeOf314
 v85:=Tryz.zeroValue314
 t127:=Tryz.underlying332
 a127:=Tryz.isAgg332
 z127:=Tryz.sizeOf332
 v127:=Tryz.zeroValue332
 t143:=zX
 a143:=Tryz.isAgg353
 z143:=Tryz.sizeOf353
 v143:=Tryz.zeroValue353
 t145:=zW
 a145:=Tryz.isAgg355
 z145:=Tryz.sizeOf355
 v145:=Tryz.zeroValue355
 t167:=Tryz.underlying313
 a167:=Tryz.isAgg313
 z167:=Tryz.sizeOf313
 v167:=Tryz.zeroValue313
 t168:=Tryz.underlying316
 a168:=Tryz.isAgg316
 z168:=Tryz.sizeOf316
 v168:=Tryz.zeroValue316
 t171:=MQ
 a171:=Tryz.isAgg333
 z171:=Tryz.sizeOf333
 v171:=Tryz.zeroValue333
 t173:=Tryz.underlying335
 a173:=Tryz.isAgg335
 z173:=Tryz.sizeOf335
 v173:=Tryz.zeroValue335
 t175:=Tryz.underlying219
 a175:=Tryz.isAgg219
 z175:=Tryz.sizeOf219
 v175:=Tryz.zeroValue219
 t210:=Tryz.underlying339
 a210:=Tryz.isAgg339
 z210:=Tryz.sizeOf339
 v210:=Tryz.zeroValue339
 t212:=Tryz.underlying351
 a212:=Tryz.isAgg351
 z212:=Tryz.sizeOf351
 v212:=Tryz.zeroValue351
 t213:=Tryz.underlying352
 a213:=Tryz.isAgg352
 z213:=Tryz.sizeOf352
 t232:=Tryz.underlying363
 a232:=Tryz.isAgg363
 z232:=Tryz.sizeOf363
 v232:=Tryz.zeroValue363
 t233:=Tryz.underlying364
 a233:=Tryz.isAgg364
 z233:=Tryz.sizeOf364
 v233:=Tryz.zeroValue364
 g15:=by kernel_rfl
 g16:=by kernel_rfl
 g17:=by kernel_rfl
 g18:=by kernel_rfl
 g19:=by kernel_rfl
 t80:=Tryz.underlying312
 a80:=Tryz.isAgg312
 z80:=Tryz.sizeOf312
 v80:=Tryz.zeroValue312
 i0:=by kernel_rfl
 i2:=by kernel_rfl
 i3:=by kernel_rfl
 i4:=by kernel_rfl
 i5:=by kernel_rfl
 i9:=by kernel_rfl
 i20:=by kernel_rfl
 i21:=by kernel_rfl
 i37:=by kernel_rfl
 i46:=by kernel_rfl
 i51:=by kernel_rfl
 i53:=by kernel_rfl
 i75:=by kernel_rfl
 i76:=by kernel_rfl
 i80:=by kernel_rfl
 i85:=by kernel_rfl
 i127:=by kernel_rfl
 i143:=by kernel_rfl
 i145:=by kernel_rfl
 i167:=by kernel_rfl
 i168:=by kernel_rfl
 i171:=by kernel_rfl
 i173:=by kernel_rfl
 i175:=by kernel_rfl
 i210:=by kernel_rfl
 i212:=by kernel_rfl
 i232:=by kernel_rfl
 i233:=by kernel_rfl
 m15:=by kernel_rfl
 m16:=by kernel_rfl
 m17:=by kernel_rfl
 m18:=by kernel_rfl
 m19:=by kernel_rfl
 c0:=by kernel_rfl
 c2:=by kernel_rfl
 c3:=by kernel_rfl
 c4:=by kernel_rfl
 c5:=by kernel_rfl
 c9:=by kernel_rfl
 c20:=by kernel_rfl
 c21:=by kernel_rfl
 c37:=by kernel_rfl
 c46:=by kernel_rfl
 c51:=by kernel_rfl
 c53:=by kernel_rfl
 c75:=by kernel_rfl
 c76:=by kernel_rfl
 c80:=by kernel_rfl
 c85:=by kernel_rfl
 c127:=by kernel_rfl
 c143:=by kernel_rfl
 c145:=by kernel_rfl
 c167:=by kernel_rfl
 c168:=by kernel_rfl
 c171:=by kernel_rfl
 c173:=by kernel_rfl
 c175:=by kernel_rfl
 c210:=by kernel_rfl
 c212:=by kernel_rfl
 c213:=by kernel_rfl
 c232:=by kernel_rfl
 c233:=by kernel_rfl}
def Tryz.laySplit_ren:Go.Shelf.Ren:=⟨λ |146=>144|221=>215|268=>255|138=>256|143=>257|195=>286|197=>287|218=>288|219=>289|260=>304|217=>305|225=>306|224=>307|267=>308|266=>317|314=>318|n=>n,λ |9=>9|31=>37|3=>3|4=>4|0=>0|105=>328|21=>21|5=>5|46=>189|119=>357|139=>360|138=>359|146=>361|51=>50|n=>n,λ |1=>2|3=>4|4=>5|n=>n⟩
theorem Tryz.laySplit:Go.Proofs.Lays.n146 aD Tryz.laySplit_ren:={
 mixed:=by kernel_rfl
 f138:=Tryz.func256.trans AM.iA
 f143:=Tryz.func257.trans AM.iA
 f146:=Tryz.func144.trans AM.iA
 f195:=Tryz.func286.trans AM.iA
 f197:=Tryz.func287.trans AM.iA
 f217:=Tryz.func305.trans AM.iA
 f218:=Tryz.func288.trans AM.iA
 f219:=Tryz.func289.trans AM.iA
 f221:=Tryz.func215.trans AM.iA
 f224:=Tryz.func307.trans AM.iA
 f225:=Tryz.func306.trans AM.iA
 f260:=Tryz.func304.trans AM.iA
 f266:=Tryz.func317.trans AM.iA
 f267:=Tryz.func308.trans AM.iA
 f268:=Tryz.func255.trans AM.iA
 f314:=Tryz.func318.trans AM.iA
 t0:=JN
 a0:=Tryz.isAgg0
 z0:=bKO
 v0:=RP
 t3:=jT
 a3:=RU
 z3:=FN
 v3:=qV
 t4:=mB
 a4:=aPV
 z4:=RS
 v4:=wA
 t5:=dH
 a5:=aPU
 z5:=RR
 v5:=vZ
 t9:=jC
 a9:=aPT
 z9:=RQ
 v9:=vY
 t21:=Tryz.underlying21
 a21:=Tryz.isAgg21
 z21:=Tryz.sizeOf21
 v21:=Tryz.zeroValue21
 t31:=Tryz.underlying37
 a31:=Tryz.isAgg37
 z31:=Tryz.sizeOf37
 v31:=Tryz.zeroValue37
 t46:=nZ
 a46:=HU
 z46:=AU
 v46:=pT
 t51:=lD
 a51:=RT
 z51:=HT
 v51:=sO
 t105:=Tryz.underlying328
 a105:=Tryz.isAgg328
 z105:=Tryz.sizeOf328
 v105:=Tryz.zeroValue328
 t119:=Tryz.underlying357
 a119:=Tryz.isAgg357
 z119:=Tryz.sizeOf357
 t138:=Tryz.underlying359
 a138:=Tryz.isAgg359
 z138:=Tryz.sizeOf359
 v138:=Tryz.zeroValue359
 t139:=Tryz.underlying360
 a139:=Tryz.isAgg360
 z139:=Tryz.sizeOf360
 v139:=Tryz.zeroValue360
 t146:=Tryz.underlying361
 a146:=Tryz.isAgg361
 z146:=Tryz.sizeOf361
 v146:=Tryz.zeroValue361
 g1:=by kernel_rfl
 g3:=by kernel_rfl
 g4:=by kernel_rfl}
def Tryz.layCut_ren:Go.Shelf.Ren:=⟨λ |145=>224|220=>270|219=>289|217=>305|225=>306|224=>307|267=>308|266=>317|314=>318|n=>n,λ |9=>9|4=>4|59=>277|3=>3|5=>5|46=>189|146=>361|51=>50|n=>n,λ |1=>2|n=>n⟩
theorem Tryz.layCut:Go.Proofs.Lays.n145 aD Tryz.layCut_ren:={
 mixed:=by kernel_rfl
 f145:=Tryz.func224.trans AM.iA
 f217:=Tryz.func305.trans AM.iA
 f219:=Tryz.func289.trans AM.iA
 f220:=Tryz.func270.trans AM.iA
 f224:=Tryz.func307.trans AM.iA
 f225:=Tryz.func306.trans AM.iA
 f266:=Tryz.func317.trans AM.iA
 f267:=Tryz.func308.trans AM.iA
 f314:=Tryz.func318.trans AM.iA
 t3:=jT
 a3:=RU
 z3:=FN
 v3:=qV
 t4:=mB
 a4:=aPV
 z4:=RS
 v4:=wA
 t5:=dH
 a5:=aPU
 z5:=RR
 v5:=vZ
 t9:=jC
 a9:=aPT
 z9:=RQ
 v9:=vY
 t46:=nZ
 a46:=HU
 z46:=AU
 v46:=pT
 t51:=lD
 a51:=RT
 z51:=HT
 v51:=sO
 t59:=Tryz.underlying277
 a59:=Tryz.isAgg277
 z59:=Tryz.sizeOf277
 v59:=Tryz.zeroValue277
 t146:=Tryz.underlying361
 a146:=Tryz.isAgg361
 z146:=Tryz.sizeOf361
 v146:=Tryz.zeroValue361
 g1:=by kernel_rfl}
def Tryz.layContains_ren:Go.Shelf.Ren:=⟨λ |144=>225|143=>257|219=>289|217=>305|225=>306|224=>307|267=>308|266=>317|314=>318|n=>n,λ |9=>9|4=>4|3=>3|5=>5|46=>189|146=>361|51=>50|n=>n,λ |1=>2|n=>n⟩
theorem Tryz.layContains:Go.Proofs.Lays.n144 aD Tryz.layContains_ren:={
 mixed:=by kernel_rfl
 f143:=Tryz.func257.trans AM.iA
 f144:=Tryz.func225.trans AM.iA
 f217:=Tryz.func305.trans AM.iA
 f219:=Tryz.func289.trans AM.iA
 f224:=Tryz.func307.trans AM.iA
 f225:=Tryz.func306.trans AM.iA
 f266:=Tryz.func317.trans AM.iA
 f267:=Tryz.func308.trans AM.iA
 f314:=Tryz.func318.trans AM.iA
 t3:=jT
 a3:=RU
 z3:=FN
 v3:=qV
 t4:=mB
 a4:=aPV
 z4:=RS
 v4:=wA
 t5:=dH
 a5:=aPU
 z5:=RR
 v5:=vZ
 t9:=jC
 a9:=aPT
 z9:=RQ
 v9:=vY
 t46:=nZ
 a46:=HU
 z46:=AU
 v46:=pT
 t51:=lD
 a51:=RT
 z51:=HT
 v51:=sO
 t146:=Tryz.underlying361
 a146:=Tryz.isAgg361
 z146:=Tryz.sizeOf361
 v146:=Tryz.zeroValue361
 g1:=by kernel_rfl}
def Tryz.layPu_ren:Go.Shelf.Ren:=⟨λ |14=>152|16=>222|17=>221|19=>268|20=>269|21=>264|22=>265|23=>266|24=>267|25=>297|27=>216|26=>298|28=>258|29=>290|30=>293|31=>294|32=>295|33=>296|35=>207|34=>311|36=>312|37=>313|38=>314|39=>319|40=>320|n=>n,λ |9=>9|3=>3|22=>22|24=>216|25=>219|4=>4|34=>313|5=>5|36=>189|37=>238|0=>0|39=>316|21=>21|44=>339|47=>332|50=>355|48=>353|2=>2|52=>333|55=>335|59=>351|60=>50|20=>20|61=>352|65=>363|66=>364|67=>312|n=>n,λ |0=>0|1=>1|2=>3|3=>6|4=>7|n=>n⟩
theorem Tryz.layPu:Go.Proofs.LaysPu.n14 aD Tryz.layPu_ren:={
 mixed:=by kernel_rfl
 f14:=Tryz.func152.trans AM.iA
 f16:=Tryz.func222.trans AM.iA
 f17:=Tryz.func221.trans AM.iA
 f19:=Tryz.func268.trans AM.iA
 f20:=Tryz.func269.trans AM.iA
 f21:=Tryz.func264.trans AM.iA
 f22:=Tryz.func265.trans AM.iA
 f23:=Tryz.func266.trans AM.iA
 f24:=Tryz.func267.trans AM.iA
 f25:=Tryz.func297.trans AM.iA
 f26:=Tryz.func298.trans AM.iA
 f27:=Tryz.func216.trans AM.iA
 f28:=Tryz.func258.trans AM.iA
 f29:=Tryz.func290.trans AM.iA
 f30:=Tryz.func293.trans AM.iA
 f31:=Tryz.func294.trans AM.iA
 f32:=Tryz.func295.trans AM.iA
 f33:=Tryz.func296.trans AM.iA
 f34:=Tryz.func311.trans AM.iA
 f35:=Tryz.func207.trans AM.iA
 f36:=Tryz.func312.trans AM.iA
 f37:=Tryz.func313.trans AM.iA
 f38:=Tryz.func314.trans AM.iA
 f39:=Tryz.func319.trans AM.iA
 f40:=Tryz.func320.trans AM.iA
 t0:=JN
 a0:=Tryz.isAgg0
 z0:=bKO
 v0:=RP
 i0:=by kernel_rfl
 t2:=Tryz.underlying2
 a2:=Tryz.isAgg2
 z2:=Tryz.sizeOf2
 v2:=Tryz.zeroValue2
 i2:=by kernel_rfl
 t3:=jT
 a3:=RU
 z3:=FN
 v3:=qV
 i3:=by kernel_rfl
 t4:=mB
 a4:=aPV
 z4:=RS
 v4:=wA
 i4:=by kernel_rfl
 t5:=dH
 a5:=aPU
 z5:=RR
 v5:=vZ
 i5:=by kernel_rfl
 t9:=jC
 a9:=aPT
 z9:=RQ
 v9:=vY
 i9:=by kernel_rfl
 t20:=Tryz.underlying20
 a20:=Tryz.isAgg20
 z20:=Tryz.sizeOf20
 v20:=Tryz.zeroValue20
 i20:=by kernel_rfl
 t21:=Tryz.underlying21
 a21:=Tryz.isAgg21
 z21:=Tryz.sizeOf21
 v21:=Tryz.zeroValue21
 i21:=by kernel_rfl
 t22:=YC
 a22:=Tryz.isAgg22
 z22:=Tryz.sizeOf22
 v22:=aLQ
 i22:=by kernel_rfl
 t24:=zY
 a24:=Tryz.isAgg216
 z24:=Tryz.sizeOf216
 v24:=Tryz.zeroValue216
 i24:=by kernel_rfl
 t25:=Tryz.underlying219
 a25:=Tryz.isAgg219
 z25:=Tryz.sizeOf219
 v25:=Tryz.zeroValue219
 i25:=by kernel_rfl
 t34:=Tryz.underlying313
 a34:=Tryz.isAgg313
 z34:=Tryz.sizeOf313
 v34:=Tryz.zeroValue313
 i34:=by kernel_rfl
 c34:=by kernel_rfl
 t36:=nZ
 a36:=HU
 z36:=AU
 v36:=pT
 i36:=by kernel_rfl
 t37:=a4R
 a37:=Tryz.isAgg238
 z37:=Tryz.sizeOf238
 v37:=Tryz.zeroValue238
 i37:=by kernel_rfl
 t39:=Tryz.underlying316
 a39:=Tryz.isAgg316
 z39:=Tryz.sizeOf316
 v39:=Tryz.zeroValue316
 i39:=by kernel_rfl
 t44:=Tryz.underlying339
 a44:=Tryz.isAgg339
 z44:=Tryz.sizeOf339
 v44:=Tryz.zeroValue339
 i44:=by kernel_rfl
 t47:=Tryz.underlying332
 a47:=Tryz.isAgg332
 z47:=Tryz.sizeOf332
 v47:=Tryz.zeroValue332
 i47:=by kernel_rfl
 t48:=zX
 a48:=Tryz.isAgg353
 z48:=Tryz.sizeOf353
 v48:=Tryz.zeroValue353
 i48:=by kernel_rfl
 t50:=zW
 a50:=Tryz.isAgg355
 z50:=Tryz.sizeOf355
 v50:=Tryz.zeroValue355
 i50:=by kernel_rfl
 t52:=MQ
 a52:=Tryz.isAgg333
 z52:=Tryz.sizeOf333
 v52:=Tryz.zeroValue333
 i52:=by kernel_rfl
 t55:=Tryz.underlying335
 a55:=Tryz.isAgg335
 z55:=Tryz.sizeOf335
 v55:=Tryz.zeroValue335
 i55:=by kernel_rfl
 t59:=Tryz.underlying351
 a59:=Tryz.isAgg351
 z59:=Tryz.sizeOf351
 v59:=Tryz.zeroValue351
 i59:=by kernel_rfl
 t60:=lD
 a60:=RT
 z60:=HT
 v60:=sO
 i60:=by kernel_rfl
 t61:=Tryz.underlying352
 a61:=Tryz.isAgg352
 z61:=Tryz.sizeOf352
 t65:=Tryz.underlying363
 a65:=Tryz.isAgg363
 z65:=Tryz.sizeOf363
 v65:=Tryz.zeroValue363
 i65:=by kernel_rfl
 t66:=Tryz.underlying364
 a66:=Tryz.isAgg364
 z66:=Tryz.sizeOf364
 v66:=Tryz.zeroValue364
 i66:=by kernel_rfl
 t67:=Tryz.underlying312
 a67:=Tryz.isAgg312
 z67:=Tryz.sizeOf312
 v67:=Tryz.zeroValue312
 i67:=by kernel_rfl
 g0:=by kernel_rfl
 m0:=by kernel_rfl
 g1:=by kernel_rfl
 m1:=by kernel_rfl
 g2:=by kernel_rfl
 m2:=by kernel_rfl
 g3:=by kernel_rfl
 m3:=by kernel_rfl
 g4:=by kernel_rfl
 m4:=by kernel_rfl}
end Go.Proofs
end
section
namespace Go.Proofs.T
open Go Go.Proofs Go.Shelf Go.RowKit Go.Sort Go.Lib
theorem bBM(w:World)(T:TypeId)(nd:Nat)(hs:nd<=24):Holds (λ(b:UInt8)=>bA .u8 (b.toNat:Int)) (w.alloc (.cells zeros24 T)) w.heap.size 0 (wG nd (0:UInt8)):=λ j hj=>by
 have hj':j<nd:=by simpa using hj
 refine⟨?_,World.frozen?_alloc_new _ _ _ _⟩;rw[World.cell?_alloc_new,zeros24_at _ oO,getElem!_pos _ j hj];simp
theorem bID(w:World)(o:Obj)(dk:Array UInt8)(k:Nat):∃os,(putRow (λ(b:UInt8)=>bA .u8 (b.toNat:Int)) (w.alloc o) w.heap.size 0 dk).drewN k=grow (w.drewN k) os:=by rw[alloc_eq_grow];obtain⟨os',_,e⟩:=putRow_grow_new (λ(b:UInt8)=>bA .u8 (b.toNat:Int)) w #[o] w.heap.size 0 dk (aF _);exact⟨os',by rw[e];rfl⟩
theorem a2M(u:Nat)(hu64:u<18446744073709551616)(w:World)(htab:Lib.TabIs aD w "internal/strconv.uint64pow10" .u64 Lib.pow10Tab):
 Calls aD 262 #[.int .u64 u,.int .i64 10] w λ e w'=>e= .returned (.string ⟨(Lib.decDigits u).toArray⟩)/\∃k os,w'=grow (w.drewN k) os:=by
 have L:=Tryz.layItoa;have e293:∀args w,(callFunc 293 args).run aD w= .ok (.enter 293 args) w:=enters_of Tryz.func293 AM.iF rfl;have e294:∀args w,(callFunc 294 args).run aD w= .ok (.enter 294 args) w:=enters_of Tryz.func294 AM.iF rfl;have e295:∀args w,(callFunc 295 args).run aD w= .ok (.enter 295 args) w:=enters_of Tryz.func295 AM.iF rfl;by_cases hs:u<100
 .go_enter Tryz.func262,Tryz.ntmps262
  go_wp2_with (go_at_fn 293;refine(Any.internal_strconv_small {L with} u hs _).mono ?_;rintro e w' ⟨rfl,rfl⟩)
  go_ret
  exact⟨rfl,0,#[],by simp[World.drewN_zero]⟩
 have hu1:1<=u:=oO;have hnd20:Lib.nDigits u<=20:=by have:=Lib.numDigits_eq u hu1 hu64;split at this<;>omega
 have hal:aD.arrayLen 333=24:=by simp[Program.arrayLen,MQ]
 have hsl1:∀W,(Instr.sliceAt 333 (.pointer (aA ⟨w.heap.size,0,aC⟩)) aC (aA (.int .i64 (Lib.nDigits u:Int))) aC).run aD W= .ok (.slice (aA ⟨w.heap.size,0,aC⟩) (Lib.nDigits u) 24) W:=λ W=>by
  rw[run_sliceAt_array_h W 333 ⟨w.heap.size,0,aC⟩ (by simp[Program.arrayLen,Program.elem,MQ]) .i64 (Lib.nDigits u:Int) oO (by rw[hal];omega)];go_simp
  try omega
 have hH0:=bBM w 333 (Lib.nDigits u) oO;have hfmt:=Any.internal_strconv_formatBase10 {L with} w.heap.size 0 24 u (wG (Lib.nDigits u) 0) (w.alloc (.cells Lib.zeros24 333)) hH0 (by rw[aDM];exact Lib.lt_pow_nDigits u) hu64 (by rw[aDM];omega);rw[aDM]at hfmt;have HH0:=Lib.hid hH0;clear hH0 hal;go_enter Tryz.func262,Tryz.ntmps262
 go_wp2_with (first
  |(go_at_fn 294;refine(Any.internal_strconv_numDigits {L with} u hu1 hu64 _ (Lib.tabIs_alloc htab _)).mono ?_;rintro e w' ⟨rfl,rfl⟩))
 go_at_fn 295
 refine hfmt.mono ?_;rintro e w' ⟨rfl,k,v',dk,rfl,hF⟩
 have hcv:(convert 238 9 (.slice (aA ⟨w.heap.size,0,aC⟩) (Lib.nDigits u) 24)).run aD ((putRow (λ(b:UInt8)=>bA .u8 (b.toNat:Int)) (w.alloc (.cells Lib.zeros24 333)) w.heap.size 0 dk).drewN k)= .ok (.string ⟨(Lib.decDigits u).toArray⟩) ((putRow (λ(b:UInt8)=>bA .u8 (b.toNat:Int)) (w.alloc (.cells Lib.zeros24 333)) w.heap.size 0 dk).drewN k):=by
  have h:=run_convert_bytes_back (P:=aD) ((putRow (λ(b:UInt8)=>bA .u8 (b.toNat:Int)) (w.alloc (.cells Lib.zeros24 333)) w.heap.size 0 dk).drewN k) 238 9 5 ⟨w.heap.size,0,aC⟩ 24 (Lib.decDigits u) a4R dH jC (λ j hj=>by rw[Lib.row_is_numeral hF j hj,Lib.add_plain,World.cell?_drewN];exact cell?_putRow (λ(b:UInt8)=>bA .u8 (b.toNat:Int)) _ w.heap.size 0 _ dk HH0.out (by rw[hF.size,aDM]) j (by rw[hF.size];rw[Lib.decDigits_length]at hj;exact hj))
  rw[Lib.decDigits_length]at h;exact h
 go_wp2
 go_ret
 obtain⟨os,eo⟩:=bID w (.cells Lib.zeros24 333) dk k;exact⟨rfl,k,os,eo⟩
end Go.Proofs.T
end
section
namespace Go.Proofs.T
open Go Go.AM Go.Proofs Go.Lib
variable{Γ:dL}
structure GT (Γ:dL):Prop where
 pow:AM.look Γ 3=aA (Lib.pow10Tab.map λ z=> .lit (.int .u64 z))
 errS:∃te pe,AM.look Γ 0=aA [.lit (.iface te pe)]
 errR:∃te pe,AM.look Γ 1=aA [.lit (.iface te pe)]
 maxL:∃m,AM.look Γ 2=aA [.lit (.int .i64 m)]
theorem a8M(hG:GT Γ)(n:Int)(h0: -9223372036854775808<=n)(h1:n<=9223372036854775807):Pure aD Γ 216 [n] (.lit (.string (ByteArray.mk (itoa n).toArray))):=
 aPX (g:=3) Tryz.layItoa iF hG.pow n h0 h1
theorem bAC(hG:GT Γ)(l:List UInt8)(hl:l.length<=281474976710656):Pure aD Γ 150 [.lit (.string (ByteArray.mk l.toArray))] (.tup [(QD l),.junk]):=by obtain⟨te,pe,h1⟩:=hG.errS;obtain⟨te',pe',h2⟩:=hG.errR;exact aPY Tryz.layAtoi h1 h2 l hl
theorem aZY(hG:GT Γ)(l:List UInt8)(hl:l.length<4294967281):Pure aD Γ 144 [.lit (.string (ByteArray.mk l.toArray)),.lit (.string (ByteArray.mk [(32:UInt8)].toArray))] (aZX (split l [32])):=by obtain⟨m,h1⟩:=hG.maxL;exact aIE Tryz.laySplit iF h1 l [32] hl sS
end Go.Proofs.T
end
section
namespace Go.AM
open Go
def aBV:Nat->Nat->List UInt8
 |0,_=>[]
 | f+1,u=>match Nat.blt u 10 with
   |true=>[UInt8.ofNat (48+u)]
   |false=>aBV f (u/10)++[UInt8.ofNat (48+u%10)]
theorem HC:∀(f u:Nat),u<10^(f+1)->aBV (f+1) u=Lib.decDigits u
 |f,u,h=>by
  rw[aBV,Lib.decDigits];by_cases hu:u<10;.rw[dif_pos hu,show Nat.blt u 10=aB from by rw[Nat.blt_eq];exact hu]
  rw[dif_neg hu,show Nat.blt u 10=aE from by rw[gB,ne_eq,Nat.blt_eq];exact hu];simp only
  cases f with
  |zero=>simp at h;omega
  |succ f=>rw[HC f (u/10) (by rw[Nat.pow_succ]at h;omega)]
def bCV(n:Int):List UInt8:=match n with
 | .ofNat u=>aBV 20 u
 | .negSucc u=>45::aBV 20 (u+1)
def uH:List UInt8->List (List UInt8)
 |[]=>[[]]
 | c::r=>match c.toNat==32,uH r with
   |true,ws=>[]::ws
   |false,w::ws=>(c::w)::ws
   |false,[]=>[[c]]
section
variable{P:Program}{Γ:dL}{o:Oper}{ev ev':Operand->Option AVal}{get:Nat->Option Blk}{k:Nat}
theorem a5E {out:Out}(h:∀x v,ev' x=aA v->∃u,ev x=aA u/\VLe u v)(hg:Good P Γ o ev' get k out):Good P Γ o ev get k out:=
 ⟨λ w G ρ H A a hr hA hf hrd hop=>hg.ok w G ρ H A a hr hA hf hrd (λ x hx v hv=>by obtain⟨u,hu,hl⟩:=h x v hv;exact hl _ _ _ _ _ (hop x hx u hu)),hg.rds,hg.le⟩
theorem a9Q(v:AVal):VLe v (deS v):=λ w G ρ A cv h=>PQ h
theorem aPD{t s by':Nat}{zrow:List AVal}(ho:o.op= .buildSlice t 0 #[])(hz:gV P t=aA (s,by',zrow)):Good P Γ o ev get k ⟨.slc k 0 0 0,k+1,[(k,aA ⟨s,aB,[]⟩)],[]⟩:=by
 refine⟨λ w G ρ H A a hr hA hf hrd hop next Q hn=>?_,λ i hi=>by simp at hi,mF _⟩
 obtain⟨e,i,hu,hi⟩:∃e i,P.underlying t=aA (.slice e)/\P.info? e=aA i:=by
  unfold gV at hz;split at hz
  .rename_i e hu;split at hz;.rename_i i hi;exact⟨e,i,hu,hi⟩
   cases hz
  cases hz
 have hrun:(execOp a.eval o).run P w= .ok (.value (.slice (aA ⟨w.heap.size,0,aC⟩) 0 0)) (w.alloc (.cells #[] e)):=by simp[execOp,ho,Instr.buildSlice,underlying,hu,sizeOf,typeInfo,hi,newRow,Instr.fill];congr 2;exact aIG sS (λ i h1 h2=>by simp at h2)
 have hkA:¬A k:=λ hk=>qR _ (hA k hk);obtain⟨hρ,hfr⟩:=hf k (aF _) (cW _);have hrel:=hr.alloc k hρ hfr ⟨s,aB,[]⟩ #[] e A (λ i=>A i\/(k<=i/\i<k+1)) hkA (λ _ h=> .inl h) (.inr ⟨aF _,cW _⟩) (λ r row h=>by simp at h) (λ r row c v h=>by simp at h) w rfl rfl rfl rfl;have hst:=lY (w:=w) (G:=G) (ρ:=ρ) k s (.cells #[] e) w rfl rfl rfl rfl;unfold Oper.wp;rw[hrun];refine hn _ G _ _ hrel (.slc (b:=w.heap.size) (s:=s) (ty:=e) (m:=0) (.inr ⟨aF _,cW _⟩) (by simp[fF]) ?_ sS (aF _) (by unfold maxLen;omega) (.inl rfl)) ⟨hst.size,hst.keep,hst.shape,hst.g,hst.g',hst.own,λ id hid=>hst.ids id (λ he=>hid (oO:k<=id/\id<k+1)),hst.os,hst.tape,hst.output⟩;have:=iU w (.cells #[] e);unfold World.shape?;rw[this];rfl
end
def aRD(get:Nat->Option Blk):AVal->Option (List Nat)
 | .sl id r 0=>match get id with
   | some B=>match Nat.ble r B.rows.length with
     |true=>aA [id]
     |false=>aC
   |none=>aC
 | .rd _ 0 _=>aA []
 | .lit (.slice aC 0 0)=>aA []
 |_=>aC
def aRL(P:Program)(Γ:dL)(o:Oper)(ev:Operand->Option AVal)(get:Nat->Option Blk)(k:Nat):Option Out:=
 match(match o.op with
 | .buildSlice t 0 parts=>match parts.toList,gV P t with
   |[],aA (s,_,_)=>aA ⟨.slc k 0 0 0,k+1,[(k,aA ⟨s,aB,[]⟩)],[]⟩
   |_,_=>aC
 | .binOp .eql t x y _=>match ev x,ev y,P.underlying t with
   | some (.slc id _ _ _),aA (.lit (.slice aC 0 0)),aA (.slice _)=>match get id with
     |some _=>aA ⟨.lit (.bool aE),k,[],[id]⟩
     |none=>aC
   |_,_,_=>aC
 | .call {callee:= .builtin .append,args:=args,argTypes:=ty}=>match args.toList,ty.toList with
   | [x,y],[t,t']=>match sP t t',gV P t,ev x,ev y with
     | true,aA _,aA (.slc id r n c),aA v=>match get id,aRD get (deS v)with
       |some _,aA ids=>aA ⟨.slc id r n c,k,[],id::ids⟩
       |_,_=>aC
     |_,_,_,_=>aC
   |_,_=>aC
 |_=>(aC:Option Out))with
 |some out=>aA out
 | none=>match AT P Γ o ev get k with
   |some out=>aA out
   |none=>AT P Γ o (λ x=>(ev x).map deS) get k
section
variable{P:Program}{Γ:dL}{o:Oper}{ev:Operand->Option AVal}{get:Nat->Option Blk}{k:Nat}
theorem aRC{v:AVal}{ids:List Nat}(h:aRD get v=aA ids):∃s rows p,SrcA get v s 0 rows p ids:=by
 unfold aRD at h;split at h
 .rename_i id r;split at h
  .rename_i B hB;split at h;.rename_i hr;cases h;exact⟨_,_,_,.sl hB (qY hr)⟩
   cases h
  cases h
 .cases h;exact⟨_,_,_,.rd⟩
 .cases h;exact⟨_,_,_,.nil⟩
 cases h
theorem aEE{out:Out}(h:aRL P Γ o ev get k=aA out):Good P Γ o ev get k out:=by
 unfold aRL at h;split at h
 .rename_i out' h1;cases h;split at h1
  .rename_i t parts ho;split at h1;.rename_i s b z hp hz;cases h1;obtain rfl:parts= #[]:=bGD hp;exact aPD ho hz
   cases h1
  .rename_i t x y ty ho;split at h1
   .rename_i id r n c e hx hy hu;split at h1;.rename_i B hB;cases h1;exact JU ho hu hx hB hy
    cases h1
   cases h1
  .rename_i args ty ho;split at h1
   .rename_i x y t t' ha ht;split at h1
    .rename_i z id r n c v hb hz hx hy;split at h1;.rename_i B ids hB hs;cases h1;obtain⟨s',rows,p,hsrc⟩:=aRC hs;obtain rfl:args= #[x,y]:=bGD ha;obtain rfl:ty= #[t,t']:=bGD ht;obtain rfl:=cH hb;obtain⟨s,b,zr⟩:=z;exact UT ho hz hx hB hy hsrc
     cases h1
    cases h1
   cases h1
  cases h1
 split at h;.rename_i h2;cases h;exact sM h2
 refine a5E (λ x v hv=>?_) (sM h);simp only[aG]at hv;obtain⟨u,hu,rfl⟩:=hv;exact⟨u,hu,a9Q u⟩
end
section
variable{P:Program}{Γ:dL}{o:Oper}{ev:Operand->Option AVal}{get:Nat->Option Blk}{k:Nat}
def aVO(P:Program)(o:Oper)(ev:Operand->Option AVal)(k:Nat):Option Out:=
 match o.op with
 | .binOp op t x y _=>match xR op,ev x,ev y,P.underlying t with
   | some neg,aA (.agg xc),aA (.agg yc),aA (.struct fs)=>match nE xc,nE yc,fs.toList.mapM (aKQ P),P.stoodInHeld t,P.eqGuardType P.depth t,fs.any (·.name== "_")with
     | some xs,aA ys,aA offs,aE,aE,aE=>match KK xs ys offs with
       |some p=>aA ⟨.lit (.bool (if neg then !p else p)),k,[],[]⟩
       |none=>aC
     |_,_,_,_,_,_=>aC
   |_,_,_,_=>aC
 |_=>aC
theorem aGN{out:Out}(h:aVO P o ev k=aA out):Good P Γ o ev get k out:=by
 unfold aVO at h;split at h
 .rename_i op t x y ty ho;split at h
  .rename_i neg xc yc fs hn hx hy hu;split at h
   .rename_i xs ys offs h1 h2 h3 h4 h5 h6;split at h
    .rename_i p hp;cases h
     have ho':o.op= .binOp (if neg then .neq else .eql) t x y ty:=by
      cases op<;>simp[xR]at hn;.subst hn;exact ho
      subst hn;exact ho
     exact aBU ho' hu h4 h5 h6 h3 hx hy h1 h2 hp
    cases h
   cases h
  cases h
 cases h
end
section
variable{P:Program}{Γ:dL}{o:Oper}{ev:Operand->Option AVal}{get:Nat->Option Blk}{k:Nat}
def aSW(P:Program)(o:Oper)(ev:Operand->Option AVal)(k:Nat):Option Out:=
 match o.op with
 | .binOp op t x (.const .nilIface) _=>match xR op,ev x,P.underlying t with
   |some neg,aA (.lit .nilIface),aA (.interface _)=>aA ⟨.lit (.bool (if neg then aE else aB)),k,[],[]⟩
   |_,_,_=>aC
 |_=>aC
theorem aET{out:Out}(h:aSW P o ev k=aA out):Good P Γ o ev get k out:=by
 unfold aSW at h;split at h
 .rename_i op t x ty ho;split at h
  .rename_i neg ms hn hx hu;cases h;refine .quiet (cF λ w G ρ H A a hr hrd hop=>⟨.bool (if neg then aE else aB),?_,.lit⟩);have ex:a.eval x= .nilIface:=by have hv:=hop x (by cases op<;>simp[ho,Op.operands]) _ hx;exact V_lit hv
   have ey:a.eval (.const .nilIface)= .nilIface:=rfl;have hg:∀op,eqGuard op t x (.const .nilIface) .nilIface .nilIface=pure ():=λ op=>by cases op<;>cases x<;>rfl
   have he':∀d,(Op.equalIn (d+1) t .nilIface .nilIface).run P w= .ok aB w:=λ d=>by simp[Op.equalIn,run_underlying hu]
   have he:(Op.equal t .nilIface .nilIface).run P w= .ok aB w:=he' 9999;have h1:(binOp .eql t .nilIface .nilIface).run P w= .ok (.bool aB) w:=by have e:binOp .eql t .nilIface .nilIface=(do pure (.bool (←Op.equal t .nilIface .nilIface))):=rfl;rw[e,bN,he];rfl
   have h2:(binOp .neq t .nilIface .nilIface).run P w= .ok (.bool aE) w:=by have e:binOp .neq t .nilIface .nilIface=(do pure (.bool (!(←Op.equal t .nilIface .nilIface)))):=rfl;rw[e,bN,he];rfl
   cases op<;>simp[xR]at hn;.subst hn;simp only[execOp,ho,ex,ey,bN,hg,dE,bG,h1];rfl
   subst hn;simp only[execOp,ho,ex,ey,bN,hg,dE,bG,h2];rfl
  cases h
 cases h
end
def opD(P:Program)(Γ:dL)(o:Oper)(ev:Operand->Option AVal)(get:Nat->Option Blk)(k:Nat):Option Out:=
 match aTO P o ev get k with
 |some out=>aA out
 | none=>match aRL P Γ o ev get k with
   |some out=>aA out
   | none=>match aVO P o ev k with
     |some out=>aA out
     |none=>aSW P o ev k
theorem aSU{P:Program}{Γ:dL}{o:Oper}{ev:Operand->Option AVal}{get:Nat->Option Blk}{k:Nat}{out:Out}(h:opD P Γ o ev get k=aA out):Good P Γ o ev get k out:=by
 unfold opD at h;split at h;.rename_i h1;cases h;exact aFE h1
 split at h;.rename_i h1;cases h;exact aEE h1
 split at h;.rename_i h1;cases h;exact aGN h1
 exact aET h
def aVN:Value->Value->Bool
 | .int k a,.int k' b=>decide (k=k')&&decide (a=b)
 | .bool a,.bool b=>a==b
 | .string a,.string b=>decide (a.data.toList=b.data.toList)
 | .slice aC 0 0,.slice aC 0 0=>aB
 |_,_=>aE
theorem aVM{a b:Value}(h:aVN a b=aB):a=b:=by
 unfold aVN at h;split at h;.simp only[aH,dTt]at h;rw[h.1,h.2]
 .simp only[beq_iff_eq]at h;rw[h]
 .rename_i a b;have h:=of_decide_eq_true h;congr 1;cases a;cases b;simp only at h;congr 1;exact bGD h
 .rfl
 cases h
def a2R:AVal->AVal->Bool
 | .lit a,.lit b=>aVN a b
 | .ptr i r c,.ptr i' r' c'=>sP i i'&&(sP r r'&&sP c c')
 | .sl i r c,.sl i' r' c'=>sP i i'&&(sP r r'&&sP c c')
 | .slc i r n c,.slc i' r' n' c'=>sP i i'&&(sP r r'&&(sP n n'&&sP c c'))
 |_,_=>aE
theorem aKZ{a b:AVal}(h:a2R a b=aB):a=b:=by
 unfold a2R at h;split at h;.rw[aVM h]
 .simp only[aH]at h;rw[cH h.1,cH h.2.1,cH h.2.2]
 .simp only[aH]at h;rw[cH h.1,cH h.2.1,cH h.2.2]
 .simp only[aH]at h;rw[cH h.1,cH h.2.1,cH h.2.2.1,cH h.2.2.2]
 cases h
def a8W(B C:Blk):Bool:=(B.pure==C.pure)&&(sP B.sz C.sz&&FX (FX a2R) B.rows C.rows)
theorem a2Q{B C:Blk}(h:a8W B C=aB):B=C:=by simp only[a8W,aH,beq_iff_eq]at h;obtain⟨h1,h2,h3⟩:=h;cases B;cases C;simp only at h1 h2 h3;rw[h1,cH h2,BD (λ a b h=>BD (λ _ _=>aKZ) h) h3]
def holdsF(fr:Fr):Fr->Bool
 |[]=>aB
 | (t,v)::r=>match KC fr t with
   |some u=>a2R u v&&holdsF fr r
   |none=>aE
def WT(H:aO):aO->Bool
 |[]=>aB
 | (t,v)::r=>match KC H t with
   |some u=>a8W u v&&WT H r
   |none=>aE
theorem TW{fr:Fr}:∀ {fr1:Fr},holdsF fr fr1=aB->leF fr fr1
 |[],_=>trivial
 |(t,v)::r,h=>by
  simp only[holdsF]at h;split at h;.rename_i u hu;simp only[aH]at h;rw[BU]at hu;exact⟨by rw[hu,aKZ h.1],TW h.2⟩
  cases h
theorem TV{H:aO}:∀ {H1:aO},WT H H1=aB->QS H H1
 |[],_=>trivial
 |(t,v)::r,h=>by
  simp only[WT]at h;split at h;.rename_i u hu;simp only[aH]at h;rw[BU]at hu;exact⟨by rw[hu,a2Q h.1],TV h.2⟩
  cases h
def DS(r:Option (Exit×Nat×Fr×aO))(k:Nat)(fr:Fr)(H:aO):Bool:=match r with
 |some (.normal,_,fr1,H1)=>holdsF fr1 fr&&(WT H1 H&&(bdF (λ i=>Nat.blt i k) fr&&oM (λ i=>Nat.blt i k) H))
 |_=>aE
theorem a4P{P:Program}{Γ:dL}{nt:Nat}{Q:AQ}{k:Nat}{fr:Fr}{H:aO}{c x y:Code}{p:List Nat}{X:Xt}(hX:XtOk P Γ X)(n:Nat)(hc:hY c p= .seq x y)(k1:Nat)(fr1:Fr)(H1:aO)
 (h:DS (fI X (UE X P Γ n) P Γ nt x k fr H) k1 fr1 H1=aB) (hr:W P Γ nt 0 (hY c (1::p)) Q k1 fr1 H1):W P Γ nt 0 (hY c p) Q k fr H:=by
 have hx:hY c (0::p)=x:=by simp[hY,hc,KM]
 refine gW hc ?_;rw[hx];unfold DS at h;split at h
 .rename_i k2 fr2 H2 he;simp only[aH]at h;obtain⟨h1,h2,h3,h4⟩:=h;have hlt:(λ i=>Nat.blt i k1)=jS k1:=funext λ i=>by rw[bH];simp only[jS,dTt];rw[Nat.blt_eq]
  rw[hlt]at h3 h4;refine lI (zD (kb:=0) hX (aGE hX n) x _ _ _ _ _ _ _ he) ?_;rintro e2 k3 fr3 H3 ⟨rfl,rfl,rfl,rfl⟩;exact gL (nV (pH (aZ _) (TW h1) (TV h2) h3 h4)) hr
 cases h
end Go.AM
end
section
namespace Go.Proofs.T
open Go Go.AM Go.Proofs Go.Lib Go.RowKit Go.Shelf
variable{Γ:dL}
theorem aDD{w:World}{G:Nat->Prop}{ρ:cY}{A:bZ}{u v x:Value}{cs:Array Value}(h:Vs w G ρ A [.lit u,.lit v,.lit x] cs):cs= #[u,v,x]:=by
 obtain⟨h1,h2⟩:=h;have hs:cs.size=3:=by simpa using h1.symm
 have e0:=AM.V_lit (h2 0 _ rfl);have e1:=AM.V_lit (h2 1 _ rfl);have e2:=AM.V_lit (h2 2 _ rfl);rw[aI]at e0 e1 e2;refine aIG (by simp[hs]) λ i hi hj=>?_;have:i=0\/i=1\/i=2:=oO;rcases this with rfl|rfl|rfl;.rw[aQ hi]at e0;simpa using e0
 .rw[aQ hi]at e1;simpa using e1
 rw[aQ hi]at e2;simpa using e2
theorem aFO(w:World)(k:Nat)(os:Array Obj):Below w.heap.size w (Sort.grow (w.drewN k) os):=
 ⟨rfl,rfl,rfl,by first|(simp[Sort.grow];done)|(simp[Sort.grow];omega),λ i hi=>by show((w.drewN k).heap++os)[i]? =_;rw[fV (by show i<w.heap.size;omega)];rfl⟩
theorem bIC(u:Nat)(hu64:u<18446744073709551616)(w:World)(htab:Lib.TabIs aD w "internal/strconv.uint64pow10" .u64 Lib.pow10Tab):
 Calls aD 219 #[.int .u64 u,.int .i64 10] w λ e w'=>e= .returned (.string ⟨(Lib.decDigits u).toArray⟩)/\∃k os,w'=Sort.grow (w.drewN k) os:=by
 have e262:∀args w,(callFunc 262 args).run aD w= .ok (.enter 262 args) w:=enters_of Tryz.func262 iF rfl;go_enter Tryz.func219,Tryz.ntmps219
 go_wp2_with (go_at_fn 262;refine(a2M u hu64 _ htab).mono ?_;rintro e w' ⟨rfl,k,os,rfl⟩)
 go_ret
 exact⟨rfl,k,os,rfl⟩
theorem bDB(hG:GT Γ)(u:Nat)(hu:u<18446744073709551616):AM.Pure aD Γ 219 [.lit (.int .u64 (u:Int)),(10:Int)] (.lit (.string (str (decDigits u)))):=
 mC rfl λ w G args hg hv=>by rw[YA hv];refine(bIC u hu w ((hg _ _ hG.pow).tab iF)).mono ?_;rintro e w' ⟨rfl,k,os,rfl⟩;exact⟨_,rfl,aFO _ _ _,.lit⟩
theorem bFL(hG:GT Γ)(l sep:List UInt8)(hl:l.length<4294967281):AM.Pure aD Γ 224 [.lit (.string (str l)),.lit (.string (str sep))] (.tup [.lit (.string (str (Lib.cut l sep).1)),.lit (.string (str (Lib.cut l sep).2.1)),.lit (.bool (Lib.cut l sep).2.2)]):=by
 obtain⟨m,h1⟩:=hG.maxL
 exact mC rfl λ w G args hg hv=>by
  rw[YA hv];have hs:(str l).size<4294967281:=by simpa [ByteArray.size]using hl
  refine(Any.strings_Cut Tryz.layCut (str l) (str sep) m w hs ((hg _ _ h1).cell rfl)).mono ?_;rintro e w' ⟨rfl,n,rfl⟩;refine⟨_,rfl,⟨rfl,rfl,rfl,aF _,λ i hi=>rfl⟩,.tup rfl λ j v hj=>?_⟩
  match j,hj with
  |0,hj=>cases hj;exact .lit
  |1,hj=>cases hj;exact .lit
  |2,hj=>cases hj;exact .lit
  |j+3,hj=>simp at hj
theorem aGZ(hG:GT Γ)(l sub:List UInt8)(hl:l.length<4294967281):AM.Pure aD Γ 225 [.lit (.string (str l)),.lit (.string (str sub))] (Lib.contains l sub):=by
 obtain⟨m,h1⟩:=hG.maxL
 exact mC rfl λ w G args hg hv=>by
  rw[YA hv];have hs:(str l).size<4294967281:=by simpa [ByteArray.size]using hl
  refine(Any.strings_Contains Tryz.layContains (str l) (str sub) m w hs ((hg _ _ h1).cell rfl)).mono ?_;rintro e w' ⟨rfl,rfl⟩;exact⟨_,rfl,Below.refl _ _,.lit⟩
theorem aPS{w:World}{G:Nat->Prop}{ρ:cY}{A:bZ}{n:Int}{x:Value}:V w G ρ A (.tup [.lit (.int .u64 n),.junk]) (.tuple #[.int .u64 n,x]):=by
 refine .tup rfl λ j v hj=>?_
 match j with
 |0=>cases hj;exact .lit
 |1=>cases hj;exact .junk
 |j+2=>simp at hj
theorem a7R(hG:GT Γ)(l:List UInt8)(hl:l.length<=281474976710656):AM.Pure aD Γ 152 [.lit (.string (str l)),(10:Int),(64:Int)] (.tup [.lit (.int .u64 (puV 64 l)),.junk]):=by
 obtain⟨te,pe,hS⟩:=hG.errS;obtain⟨te',pe',hR⟩:=hG.errR
 exact mC rfl λ w G args hg hv=>by
  rw[aDD hv];have hs:(str l).size<=281474976710656:=by simpa [ByteArray.size]using hl
  have hd:(str l).data.toList=l:=by simp
  cases h:parseUintB 64 l
  .rename_i v;refine(Any.strconv_ParseUint_10_at64_ok Tryz.layPu (str l) oO v (by rw[hd];exact h) w).mono ?_;rintro e w' ⟨rfl,hw⟩;refine⟨_,rfl,?_,by rw[puV,h];exact aPS⟩;rcases hw with rfl|rfl;.exact Below.refl _ _
   exact Lib.bytesWorld_below _ _ _
  .refine(Any.strconv_ParseUint_10_at64_syntax Tryz.layPu (str l) hs (by rw[hd];exact h) (.iface te pe) w ((hg _ _ hS).cell rfl) (.inr ⟨_,_,rfl⟩)).mono ?_;rintro e w' ⟨N,rfl,_,_,hb⟩;exact⟨_,rfl,hb,by rw[puV,h];exact aPS⟩
  refine(Any.strconv_ParseUint_10_at64_range Tryz.layPu (str l) hs (by rw[hd];exact h) (.iface te' pe') w ((hg _ _ hR).cell rfl) (.inr ⟨_,_,rfl⟩)).mono ?_;rintro e w' ⟨N,rfl,_,_,hb⟩;exact⟨_,rfl,hb,by rw[puV,h];exact aPS⟩
theorem a7S(hG:GT Γ)(l:List UInt8)(hl:l.length<=281474976710656):AM.Pure aD Γ 152 [.lit (.string (str l)),(10:Int),(32:Int)] (.tup [.lit (.int .u64 (puV 32 l)),.junk]):=by
 obtain⟨te,pe,hS⟩:=hG.errS;obtain⟨te',pe',hR⟩:=hG.errR
 exact mC rfl λ w G args hg hv=>by
  rw[aDD hv];have hs:(str l).size<=281474976710656:=by simpa [ByteArray.size]using hl
  have hd:(str l).data.toList=l:=by simp
  cases h:parseUintB 32 l
  .rename_i v;refine(Any.strconv_ParseUint_10_at32_ok Tryz.layPu (str l) oO v (by rw[hd];exact h) w).mono ?_;rintro e w' ⟨rfl,hw⟩;refine⟨_,rfl,?_,by rw[puV,h];exact aPS⟩;rcases hw with rfl|rfl;.exact Below.refl _ _
   exact Lib.bytesWorld_below _ _ _
  .refine(Any.strconv_ParseUint_10_at32_syntax Tryz.layPu (str l) hs (by rw[hd];exact h) (.iface te pe) w ((hg _ _ hS).cell rfl) (.inr ⟨_,_,rfl⟩)).mono ?_;rintro e w' ⟨N,rfl,_,_,hb⟩;exact⟨_,rfl,hb,by rw[puV,h];exact aPS⟩
  refine(Any.strconv_ParseUint_10_at32_range Tryz.layPu (str l) hs (by rw[hd];exact h) (.iface te' pe') w ((hg _ _ hR).cell rfl) (.inr ⟨_,_,rfl⟩)).mono ?_;rintro e w' ⟨N,rfl,_,_,hb⟩;exact⟨_,rfl,hb,by rw[puV,h];exact aPS⟩
theorem a4E(hG:GT Γ)(l:List UInt8)(hl:l.length<=281474976710656)(v:Int)(h:atoiAll l= .ok v):AM.Pure aD Γ 150 [.lit (.string (str l))] (.tup [v,.lit .nilIface]):=
 mC rfl λ w G args hg hv=>by
  rw[aHW hv];have hs:(str l).size<=281474976710656:=by simpa [ByteArray.size]using hl
  have hd:(str l).data.toList=l:=by simp
  refine(Any.strconv_Atoi_ok Tryz.layAtoi (str l) oO v (by rw[hd];exact h) w).mono ?_;rintro e w' ⟨rfl,hw⟩;refine⟨_,rfl,?_,.tup rfl λ j u hj=>?_⟩
  .rcases hw with rfl|⟨t,rfl⟩;.exact Below.refl _ _
   exact Lib.bytesWorld_below _ _ _
  match j,hj with
  |0,hj=>cases hj;exact .lit
  |1,hj=>cases hj;exact .lit
  |j+2,hj=>simp at hj
end Go.Proofs.T
end
section
namespace Go.Proofs.T
open Go Go.AM Go.Proofs Go.Lib
variable{Γ:dL}
theorem a1Z(n:Int)(h0: -9223372036854775808<=n)(h1:n<=9223372036854775807):bCV n=Lib.itoa n:=by
 cases n with
 |ofNat u=>
  have hu:u<10^20:=by have h2:u<=9223372036854775807:=Int.ofNat_le.1 h1;clear h1 h0;omega
  show aBV 20 u=_;rw[HC 19 u hu,Lib.itoa,iN (show ¬(Int.ofNat u<0)from Int.not_lt.2 (rT u))];rfl
 |negSucc u=>
  have hu:u+1<10^20:=by have: -((u:Int)+1)≥ -9223372036854775808:=by rw[<-Int.negSucc_eq];exact h0
                        omega
  show 45::aBV 20 (u+1)=_;rw[HC 19 (u+1) hu,Lib.itoa,iP (Int.negSucc_lt_zero u)];rfl
theorem CO:∀l,uH l≠[]
 |[]=>by simp[uH]
 |c::r=>by
  rw[uH];split;.simp
  .simp
  simp
theorem SJ:∀l,∀w∈uH l,(32:UInt8)∉w
 |[]=>by simp[uH]
 |c::r=>by
  have ih:=SJ r;rw[uH];split
  .intro w hw;rcases eY.1 hw with rfl|hw;.simp
   exact ih w hw
  .rename_i w ws h1 h2;intro x hx;rcases eY.1 hx with rfl|hx
   .intro hm;rcases eY.1 hm with e|hm;.rw[<-e]at h1;simp at h1
    exact ih w (by rw[h2];simp) hm
   exact ih x (by rw[h2];exact dM _ hx)
  rename_i h1 h2;exact absurd h2 (CO r)
theorem a1Y(c:UInt8)(w:List UInt8)(ws:List (List UInt8)):jn ((c::w)::ws)=c::jn (w::ws):=by
 cases ws with
 |nil=>rfl
 |cons x r=>rfl
theorem SI:∀l,jn (uH l)=l
 |[]=>rfl
 |c::r=>by
  have ih:=SI r;rw[uH];split
  .rename_i ws h1;rw[aKG (CO r),ih]
   have:c=32:=by
    have h:c.toNat=32:=by simpa using h1
    exact UInt8.toNat_inj.1 (by rw[h];rfl)
   rw[this];rfl
  .rename_i w ws h1 h2;rw[a1Y,<-h2,ih]
  rename_i h1 h2;exact absurd h2 (CO r)
theorem VB(l:List UInt8):Lib.split l [32]=uH l:=by have:=ZC (CO l) (SJ l);rw[SI]at this;exact this
def IP(s:ByteArray):Bool:=Nat.ble s.data.toList.length 4294967280
def a6Y(f:FuncId)(k:Nat)(args:List AVal)(H:aO):Option (Nat×AVal×aO):=
 match H with
 | []=>match f,args with
   | 216,[.lit (.int .i64 n)]=>match decide (-9223372036854775808<=n),decide (n<=9223372036854775807)with
     |true,aB=>aA (k,.lit (.string (str (bCV n))),[])
     |_,_=>aC
   | 219,[.lit (.int .u64 (.ofNat u)),.lit (.int .i64 10)]=>match Nat.blt u 18446744073709551616 with
     |true=>aA (k,.lit (.string (str (aBV 20 u))),[])
     |false=>aC
   | 144,[.lit (.string s),.lit (.string p)]=>match IP s,decide (p.data.toList=[32])with
     |true,aB=>aA (k,aZX (uH s.data.toList),[])
     |_,_=>aC
   | 150,[.lit (.string s)]=>match IP s with
     | true=>match atoiAll s.data.toList with
       | .ok v=>aA (k,.tup [.lit (.int .i64 v),.lit .nilIface],[])
       |_=>aA (k,.tup [.lit (.int .i64 (QD s.data.toList)),.junk],[])
     |false=>aC
   | 152,[.lit (.string s),.lit (.int .i64 10),.lit (.int .i64 b)]=>match IP s with
     | true=>match b with
       |64=>aA (k,.tup [.lit (.int .u64 (puV 64 s.data.toList)),.junk],[])
       |32=>aA (k,.tup [.lit (.int .u64 (puV 32 s.data.toList)),.junk],[])
       |_=>aC
     |false=>aC
   | 224,[.lit (.string s),.lit (.string p)]=>match IP s with
     |true=>aA (k,.tup [.lit (.string (str (Lib.cut s.data.toList p.data.toList).1)),.lit (.string (str (Lib.cut s.data.toList p.data.toList).2.1)),.lit (.bool (Lib.cut s.data.toList p.data.toList).2.2)],[])
     |false=>aC
   | 225,[.lit (.string s),.lit (.string p)]=>match IP s with
     |true=>aA (k,.lit (.bool (Lib.contains s.data.toList p.data.toList)),[])
     |false=>aC
   |_,_=>aC
 |_::_=>aC
def IG(P:Program)(Γ:dL):Xt:=⟨opD P Γ,aTP,a6Y⟩
theorem xE{s:ByteArray}(h:IP s=aB):s.data.toList.length<4294967281:=by have:=qY h;omega
theorem aZN(hG:GT Γ){f:FuncId}{k:Nat}{args:List AVal}{H:aO}{k':Nat}{v:AVal}{H':aO}(h:a6Y f k args H=aA (k',v,H')):Tr aD Γ f k args H (λ k1 r1 H1=>k1=k'/\r1=v/\H1=H'):=by
 unfold a6Y at h;split at h
 .split at h
  .rename_i n;split at h;.rename_i h1 h2;cases h;have h1:=of_decide_eq_true h1;have h2:=of_decide_eq_true h2;rw[a1Z n h1 h2];exact a8M hG n h1 h2 k
   cases h
  .rename_i u;split at h
   .rename_i h1;cases h;have hu:u<18446744073709551616:=by rw[Nat.blt_eq]at h1;exact h1
    rw[HC 19 u oO];exact bDB hG u hu k
   cases h
  .rename_i s p;split at h
   .rename_i h1 h2;cases h;have h2:=of_decide_eq_true h2;have e:p=str [32]:=by rw[<-aQZ p,h2]
    rw[<-VB,e];have:=aZY hG s.data.toList (xE h1) k;exact this
   cases h
  .rename_i s;split at h
   .rename_i h1;have hl:s.data.toList.length<=281474976710656:=by have:=xE h1;omega
    split at h;.rename_i v hv;cases h;have:=a4E hG s.data.toList hl v hv k;exact this
    cases h;have:=bAC hG s.data.toList hl k;exact this
   cases h
  .rename_i s b;split at h
   .rename_i h1;have hl:s.data.toList.length<=281474976710656:=by have:=xE h1;omega
    split at h;.cases h;have:=a7R hG s.data.toList hl k;exact this
    .cases h;have:=a7S hG s.data.toList hl k;exact this
    cases h
   cases h
  .rename_i s p;split at h;.rename_i h1;cases h;have:=bFL hG s.data.toList p.data.toList (xE h1) k;exact this
   cases h
  .rename_i s p;split at h;.rename_i h1;cases h;have:=aGZ hG s.data.toList p.data.toList (xE h1) k;exact this
   cases h
  cases h
 cases h
theorem rC(hG:GT Γ):XtOk aD Γ (IG aD Γ):=⟨λ _ _ _ _ _ h=>aSU h,λ _ _ _ _ _ h=>aFF h,λ _ _ _ _ _ _ _ h=>aZN hG h⟩
end Go.Proofs.T
end
section
namespace Go.Proofs.T
open Go Go.AM Go.Proofs
variable{Γ:dL}
def tW:Nat×AVal:=(0,.lit (.bool aE))
def vR:Nat×AVal:=(1,.ptr 37 0 0)
def vQ:Nat×AVal:=(2,.ptr 38 0 0)
def vP:Nat×AVal:=(3,.sl 35 0 4)
def vM:Nat×AVal:=(4,.sl 36 0 4)
def vK:Nat×Blk:=(10,⟨2,aB,[[.lit (.int .i64 0),.lit (.int .i64 1)]]⟩)
def vJ:Nat×Blk:=(12,⟨1,aB,[[.lit (.int .i64 0)],[.lit (.int .i64 0)]]⟩)
def vI:Nat×Blk:=(14,⟨1,aB,[[.lit (.int .i64 0)],[.lit (.int .i64 0)]]⟩)
def vH:Nat×Blk:=(15,⟨8,aB,[]⟩)
def vG:Nat×Blk:=(17,⟨3,aB,[[.lit (.int .u64 0),.lit (.int .u32 0),.lit (.int .u64 0)],[.lit (.int .u64 0),.lit (.int .u32 0),.lit (.int .u64 0)]]⟩)
def nU:Nat×Blk:=(19,⟨1,aE,[[.sl 17 0 2]]⟩)
def nT:Nat×Blk:=(23,⟨3,aB,[[.lit (.int .u64 0),.lit (.int .u32 0),.lit (.int .u64 3072)],[.lit (.int .u64 0),.lit (.int .u32 0),.lit (.int .u64 0)]]⟩)
def nS:Nat×Blk:=(25,⟨1,aE,[[.sl 23 0 2]]⟩)
def nQ:Nat×Blk:=(28,⟨2,aB,[[.lit (.int .i64 0),.lit (.int .i64 1)]]⟩)
def nP:Nat×Blk:=(32,⟨1,aB,[[.lit (.int .i64 3)],[.lit (.int .i64 0)]]⟩)
def nO:Nat×Blk:=(33,⟨1,aB,[[.lit (.int .i64 5)],[.lit (.int .i64 0)]]⟩)
def nN:Nat×Blk:=(34,⟨8,aB,[[.lit (.int .i64 5),.lit (.int .i64 0),.lit (.int .i64 1024),.lit (.int .i64 0),.lit (.int .u64 1),.lit (.bool aB),.lit (.int .u64 3072),.lit (.int .u32 0)]]⟩)
def nM:Nat×Blk:=(35,⟨1,aB,[[.lit (.string ⟨#[99,108,111,99,107,32,48,32,51]⟩)],[.lit (.string ⟨#[99,117,114,114,101,110,116,32,48,32,53]⟩)],[.lit (.string ⟨#[116,97,115,107,32,53,32,48,32,49,48,50,52,32,48,32,48,32,114,101,97,100,121,32,51,48,55,50,32,48]⟩)],[.lit (.string ⟨#[115,112,111,116,32,48,32,48,32,48,32,48,32,51,48,55,50]⟩)]]⟩)
def nL:Nat×Blk:=(36,⟨1,aB,[[.lit (.string ⟨#[99,108,111,99,107,32,48,32,48]⟩)],[.lit (.string ⟨#[99,117,114,114,101,110,116,32,48,32,48]⟩)],[.lit (.string ⟨#[103,111,110,101,32,53]⟩)],[.lit (.string ⟨#[115,112,111,116,32,48,32,48,32,48,32,48,32,48]⟩)]]⟩)
def nK:Nat×Blk:=(37,⟨7,aE,[[.lit (.int .i64 2),.lit (.int .u64 0),.sl 10 0 1,.sl 12 0 2,.sl 14 0 2,.slc 15 0 0 0,.sl 19 0 1]]⟩)
def nJ:Nat×Blk:=(38,⟨7,aE,[[.lit (.int .i64 2),.lit (.int .u64 0),.sl 28 0 1,.sl 32 0 2,.sl 33 0 2,.sl 34 0 1,.sl 25 0 1]]⟩)
def oZ:Nat×AVal:=(5,.ptr 113 0 0)
def oY:Nat×AVal:=(6,.lit (.int .i64 0))
def oX:Nat×Blk:=(97,⟨2,aB,[[.lit (.int .i64 0),.lit (.int .i64 3)]]⟩)
def oW:Nat×Blk:=(99,⟨2,aB,[[.lit (.int .i64 0),.lit (.int .i64 5)]]⟩)
def AN:Nat×Blk:=(105,⟨8,aB,[[.lit (.int .i64 5),.lit (.int .i64 0),.lit (.int .i64 1024),.lit (.int .i64 0),.lit (.int .u64 1),.lit (.bool aB),.lit (.int .u64 3072),.lit (.int .u32 0)]]⟩)
def oV:Nat×Blk:=(111,⟨5,aB,[[.lit (.int .i64 0),.lit (.int .i64 0),.lit (.int .u64 0),.lit (.int .u32 0),.lit (.int .u64 3072)]]⟩)
def AL:Nat×Blk:=(113,⟨6,aE,[[.sl 97 0 1,.sl 99 0 1,.lit (.slice aC 0 0),.lit (.slice aC 0 0),.sl 105 0 1,.sl 111 0 1]]⟩)
def qP:Nat×AVal:=(7,.ptr 197 0 0)
def qO:Nat×AVal:=(8,.lit (.int .i64 0))
def qN:Nat×Blk:=(182,⟨2,aB,[[.lit (.int .i64 0),.lit (.int .i64 0)]]⟩)
def qM:Nat×Blk:=(184,⟨2,aB,[[.lit (.int .i64 0),.lit (.int .i64 0)]]⟩)
def qL:Nat×Blk:=(190,⟨1,aB,[[.lit (.int .i64 5)]]⟩)
def qK:Nat×Blk:=(195,⟨5,aB,[[.lit (.int .i64 0),.lit (.int .i64 0),.lit (.int .u64 0),.lit (.int .u32 0),.lit (.int .u64 0)]]⟩)
def qJ:Nat×Blk:=(197,⟨6,aE,[[.sl 182 0 1,.sl 184 0 1,.lit (.slice aC 0 0),.sl 190 0 1,.lit (.slice aC 0 0),.sl 195 0 1]]⟩)
def sK:Nat×AVal:=(9,.sl 239 0 4)
def sI:Nat×AVal:=(10,.lit (.int .i64 0))
def sH:Nat×Blk:=(239,⟨1,aB,[[.lit (.string ⟨#[99,108,111,99,107,32,48,32,51]⟩)],[.lit (.string ⟨#[99,117,114,114,101,110,116,32,48,32,53]⟩)],[.lit (.string ⟨#[116,97,115,107,32,53,32,48,32,49,48,50,52,32,48,32,48,32,114,101,97,100,121,32,51,48,55,50,32,48]⟩)],[.lit (.string ⟨#[115,112,111,116,32,48,32,48,32,48,32,48,32,51,48,55,50]⟩)]]⟩)
def vO:Nat×AVal:=(11,.sl 275 0 4)
def vN:Nat×AVal:=(12,.lit (.int .i64 0))
def vL:Nat×Blk:=(275,⟨1,aB,[[.lit (.string ⟨#[99,108,111,99,107,32,48,32,48]⟩)],[.lit (.string ⟨#[99,117,114,114,101,110,116,32,48,32,48]⟩)],[.lit (.string ⟨#[103,111,110,101,32,53]⟩)],[.lit (.string ⟨#[115,112,111,116,32,48,32,48,32,48,32,48,32,48]⟩)]]⟩)
def yG:Nat×AVal:=(13,.ptr 392 0 0)
def yF:Nat×AVal:=(14,.lit (.int .i64 0))
def yE:Nat×Blk:=(300,⟨2,aB,[[.lit (.int .i64 0),.lit (.int .i64 1)]]⟩)
def yD:Nat×Blk:=(302,⟨1,aB,[[.lit (.int .i64 3)],[.lit (.int .i64 0)]]⟩)
def yC:Nat×Blk:=(304,⟨1,aB,[[.lit (.int .i64 5)],[.lit (.int .i64 0)]]⟩)
def yB:Nat×Blk:=(307,⟨1,aE,[[.sl 309 0 2]]⟩)
def yA:Nat×Blk:=(309,⟨3,aB,[[.lit (.int .u64 0),.lit (.int .u32 0),.lit (.int .u64 3072)],[.lit (.int .u64 0),.lit (.int .u32 0),.lit (.int .u64 0)]]⟩)
def xZ:Nat×Blk:=(313,⟨8,aB,[[.lit (.int .i64 5),.lit (.int .i64 0),.lit (.int .i64 1024),.lit (.int .i64 0),.lit (.int .u64 1),.lit (.bool aB),.lit (.int .u64 3072),.lit (.int .u32 0)]]⟩)
def xY:Nat×Blk:=(392,⟨7,aE,[[.lit (.int .i64 2),.lit (.int .u64 0),.sl 300 0 1,.sl 302 0 2,.sl 304 0 2,.sl 313 0 1,.sl 307 0 1]]⟩)
def CI:Nat×AVal:=(84,.lit (.bool aE))
def HM:Nat×Blk:=(113,⟨6,aE,[[.sl 97 0 1,.sl 99 0 1,.lit (.slice aC 0 0),.lit (.slice aC 0 0),.lit (.slice aC 0 0),.sl 111 0 1]]⟩)
def QC:Nat×AVal:=(16,.lit (.int .i64 352))
def aCR:Nat×AVal:=(18,.lit (.int .i64 0))
def aCQ:Nat×AVal:=(19,.lit (.int .i64 353))
theorem aw0:DS (fI (IG aD Γ) (UE (IG aD Γ) aD Γ 400) aD Γ 125 (hY (gN aLS) [0]) 0 [] []) 0 [tW] []=aB:=by kernel_rfl
theorem aw1:DS (fI (IG aD Γ) (UE (IG aD Γ) aD Γ 400) aD Γ 125 (hY (gN aLS) [0,1]) 0 [tW] []) 39 [tW,vR,vQ,vP,vM] [vK,vJ,vI,vH,vG,nU,nT,nS,nQ,nP,nO,nN,nM,nL,nK,nJ]=aB:=by kernel_rfl
theorem aw2:DS (fI (IG aD Γ) (UE (IG aD Γ) aD Γ 400) aD Γ 125 (hY (gN aLS) [0,1,1]) 39 [tW,vR,vQ,vP,vM] [vK,vJ,vI,vH,vG,nU,nT,nS,nQ,nP,nO,nN,nM,nL,nK,nJ]) 114 [vM,vP,vQ,vR,tW,oZ,oY] [vK,vJ,vI,vH,vG,nU,nT,nS,nQ,nP,nO,nN,nM,nL,nK,nJ,oX,oW,AN,oV,AL]=aB:=by kernel_rfl
theorem aw3:DS (fI (IG aD Γ) (UE (IG aD Γ) aD Γ 400) aD Γ 125 (hY (gN aLS) [0,1,1,1]) 114 [vM,vP,vQ,vR,tW,oZ,oY] [vK,vJ,vI,vH,vG,nU,nT,nS,nQ,nP,nO,nN,nM,nL,nK,nJ,oX,oW,AN,oV,AL]) 198 [oY,oZ,tW,vR,vQ,vP,vM,qP,qO] [vK,vJ,vI,vH,vG,nU,nT,nS,nQ,nP,nO,nN,nM,nL,nK,nJ,oX,oW,AN,oV,AL,qN,qM,qL,qK,qJ]=aB:=by kernel_rfl
theorem aw4:DS (fI (IG aD Γ) (UE (IG aD Γ) aD Γ 400) aD Γ 125 (hY (gN aLS) [0,1,1,1,1]) 198 [oY,oZ,tW,vR,vQ,vP,vM,qP,qO] [vK,vJ,vI,vH,vG,nU,nT,nS,nQ,nP,nO,nN,nM,nL,nK,nJ,oX,oW,AN,oV,AL,qN,qM,qL,qK,qJ]) 240 [qO,qP,vM,vP,vQ,vR,tW,oZ,oY,sK,sI] [vK,vJ,vI,vH,vG,nU,nT,nS,nQ,nP,nO,nN,nM,nL,nK,nJ,oX,oW,AN,oV,AL,qN,qM,qL,qK,qJ,sH]=aB:=by kernel_rfl
theorem aw5:DS (fI (IG aD Γ) (UE (IG aD Γ) aD Γ 400) aD Γ 125 (hY (gN aLS) [0,1,1,1,1,1]) 240 [qO,qP,vM,vP,vQ,vR,tW,oZ,oY,sK,sI] [vK,vJ,vI,vH,vG,nU,nT,nS,nQ,nP,nO,nN,nM,nL,nK,nJ,oX,oW,AN,oV,AL,qN,qM,qL,qK,qJ,sH]) 276 [sI,sK,oY,oZ,tW,vR,vQ,vP,vM,qP,qO,vO,vN] [vK,vJ,vI,vH,vG,nU,nT,nS,nQ,nP,nO,nN,nM,nL,nK,nJ,oX,oW,AN,oV,AL,qN,qM,qL,qK,qJ,sH,vL]=aB:=by kernel_rfl
theorem aw6:DS (fI (IG aD Γ) (UE (IG aD Γ) aD Γ 400) aD Γ 125 (hY (gN aLS) [0,1,1,1,1,1,1]) 276 [sI,sK,oY,oZ,tW,vR,vQ,vP,vM,qP,qO,vO,vN] [vK,vJ,vI,vH,vG,nU,nT,nS,nQ,nP,nO,nN,nM,nL,nK,nJ,oX,oW,AN,oV,AL,qN,qM,qL,qK,qJ,sH,vL]) 393 [vN,vO,qO,qP,vM,vP,vQ,vR,tW,oZ,oY,sK,sI,yG,yF] [vK,vJ,vI,vH,vG,nU,nT,nS,nQ,nP,nO,nN,nM,nL,nK,nJ,oX,oW,AN,oV,AL,qN,qM,qL,qK,qJ,sH,vL,yE,yD,yC,yB,yA,xZ,xY]=aB:=by kernel_rfl
theorem aw7:DS (fI (IG aD Γ) (UE (IG aD Γ) aD Γ 400) aD Γ 125 (hY (gN aLS) [0,1,1,1,1,1,1,1]) 393 [vN,vO,qO,qP,vM,vP,vQ,vR,tW,oZ,oY,sK,sI,yG,yF] [vK,vJ,vI,vH,vG,nU,nT,nS,nQ,nP,nO,nN,nM,nL,nK,nJ,oX,oW,AN,oV,AL,qN,qM,qL,qK,qJ,sH,vL,yE,yD,yC,yB,yA,xZ,xY]) 397 [yF,yG,sI,sK,oY,oZ,tW,vR,vQ,vP,vM,qP,qO,vO,vN,CI] [vK,vJ,vI,vH,vG,nU,nT,nS,nQ,nP,nO,nN,nM,nL,nK,nJ,oX,oW,AN,oV,AL,qN,qM,qL,qK,qJ,sH,vL,yE,yD,yC,yB,yA,xZ,xY]=aB:=by kernel_rfl
theorem aw8:DS (fI (IG aD Γ) (UE (IG aD Γ) aD Γ 400) aD Γ 125 (hY (gN aLS) [0,1,1,1,1,1,1,1,1]) 397 [yF,yG,sI,sK,oY,oZ,tW,vR,vQ,vP,vM,qP,qO,vO,vN,CI] [vK,vJ,vI,vH,vG,nU,nT,nS,nQ,nP,nO,nN,nM,nL,nK,nJ,oX,oW,AN,oV,AL,qN,qM,qL,qK,qJ,sH,vL,yE,yD,yC,yB,yA,xZ,xY]) 397 [CI,vN,vO,qO,qP,vM,vP,vQ,vR,tW,oZ,oY,sK,sI,yG,yF] [vK,vJ,vI,vH,vG,nU,nT,nS,nQ,nP,nO,nN,nM,nL,nK,nJ,oX,oW,oV,HM,qN,qM,qL,qK,qJ,sH,vL,yE,yD,yC,yB,yA,xZ,xY]=aB:=by kernel_rfl
theorem aw9:DS (fI (IG aD Γ) (UE (IG aD Γ) aD Γ 400) aD Γ 125 (hY (gN aLS) [0,1,1,1,1,1,1,1,1,1]) 397 [CI,vN,vO,qO,qP,vM,vP,vQ,vR,tW,oZ,oY,sK,sI,yG,yF] [vK,vJ,vI,vH,vG,nU,nT,nS,nQ,nP,nO,nN,nM,nL,nK,nJ,oX,oW,oV,HM,qN,qM,qL,qK,qJ,sH,vL,yE,yD,yC,yB,yA,xZ,xY]) 476 [yF,yG,sI,sK,oY,oZ,tW,vR,vQ,vP,vM,qP,qO,vO,vN,CI,QC] [vK,vJ,vI,vH,vG,nU,nT,nS,nQ,nP,nO,nN,nM,nL,nK,nJ,oX,oW,oV,HM,qN,qM,qL,qK,qJ,sH,vL,yE,yD,yC,yB,yA,xZ,xY]=aB:=by kernel_rfl
theorem bKJ:DS (fI (IG aD Γ) (UE (IG aD Γ) aD Γ 400) aD Γ 125 (hY (gN aLS) [0,1,1,1,1,1,1,1,1,1,1]) 476 [yF,yG,sI,sK,oY,oZ,tW,vR,vQ,vP,vM,qP,qO,vO,vN,CI,QC] [vK,vJ,vI,vH,vG,nU,nT,nS,nQ,nP,nO,nN,nM,nL,nK,nJ,oX,oW,oV,HM,qN,qM,qL,qK,qJ,sH,vL,yE,yD,yC,yB,yA,xZ,xY]) 508 [QC,CI,vN,vO,qO,qP,vM,vP,vQ,vR,tW,oZ,oY,sK,sI,yG,yF,aCR,aCQ] [vK,vJ,vI,vH,vG,nU,nT,nS,nQ,nP,nO,nN,nM,nL,nK,nJ,oX,oW,oV,HM,qN,qM,qL,qK,qJ,sH,vL,yE,yD,yC,yB,yA,xZ,xY]=aB:=by kernel_rfl
theorem bKI:DS (fI (IG aD Γ) (UE (IG aD Γ) aD Γ 400) aD Γ 125 (hY (gN aLS) [0,1,1,1,1,1,1,1,1,1,1,1]) 508 [QC,CI,vN,vO,qO,qP,vM,vP,vQ,vR,tW,oZ,oY,sK,sI,yG,yF,aCR,aCQ] [vK,vJ,vI,vH,vG,nU,nT,nS,nQ,nP,nO,nN,nM,nL,nK,nJ,oX,oW,oV,HM,qN,qM,qL,qK,qJ,sH,vL,yE,yD,yC,yB,yA,xZ,xY]) 559 [aCQ,aCR,yF,yG,sI,sK,oY,oZ,tW,vR,vQ,vP,vM,qP,qO,vO,vN,CI,QC,(21,(1:Int)),(22,(353:Int))] [vK,vJ,vI,vH,vG,nU,nT,nS,nQ,nP,nO,nN,nM,nL,nK,nJ,oX,oW,oV,HM,qN,qM,qL,qK,qJ,sH,vL,yE,yD,yC,yB,yA,xZ,xY]=aB:=by kernel_rfl
theorem bKH:DS (fI (IG aD Γ) (UE (IG aD Γ) aD Γ 400) aD Γ 125 (hY (gN aLS) [0,1,1,1,1,1,1,1,1,1,1,1,1]) 559 [aCQ,aCR,yF,yG,sI,sK,oY,oZ,tW,vR,vQ,vP,vM,qP,qO,vO,vN,CI,QC,(21,(1:Int)),(22,(353:Int))] [vK,vJ,vI,vH,vG,nU,nT,nS,nQ,nP,nO,nN,nM,nL,nK,nJ,oX,oW,oV,HM,qN,qM,qL,qK,qJ,sH,vL,yE,yD,yC,yB,yA,xZ,xY]) 559 [(22,(353:Int)),(21,(1:Int)),QC,CI,vN,vO,qO,qP,vM,vP,vQ,vR,oZ,oY,sK,sI,yG,yF,aCR,aCQ,(0,aB)] [vK,vJ,vI,vH,vG,nU,nT,nS,nQ,nP,nO,nN,nM,nL,nK,nJ,oX,oW,oV,HM,qN,qM,qL,qK,qJ,sH,vL,yE,yD,yC,yB,yA,xZ,xY]=aB:=by kernel_rfl
theorem lR{P:Program}{Γ:dL}{nt:Nat}{Q:AQ}{k:Nat}{fr:Fr}{H:aO}{c:Code}{p:List Nat}{X:Xt}(hX:XtOk P Γ X)(n:Nat)(hc:hY c p= .seq (hY c (0::p)) (hY c (1::p))){k1:Nat}{fr1:Fr}{H1:aO}
 (h:DS (fI X (UE X P Γ n) P Γ nt (hY c (0::p)) k fr H) k1 fr1 H1=aB) (hr:W P Γ nt 0 (hY c (1::p)) Q k1 fr1 H1):W P Γ nt 0 (hY c p) Q k fr H:=a4P hX n hc k1 fr1 H1 h hr
theorem aLM(hG:GT Γ):AM.Pure aD Γ 13 [] aB:=by refine aYK Tryz.func13 rfl 125 rfl bB rfl rfl ?_;refine lR (rC hG) 400 rfl (aw0 (Γ:=Γ)) ?_;refine lR (rC hG) 400 rfl (aw1 (Γ:=Γ)) ?_;refine lR (rC hG) 400 rfl (aw2 (Γ:=Γ)) ?_;refine lR (rC hG) 400 rfl (aw3 (Γ:=Γ)) ?_;refine lR (rC hG) 400 rfl (aw4 (Γ:=Γ)) ?_;refine lR (rC hG) 400 rfl (aw5 (Γ:=Γ)) ?_;refine lR (rC hG) 400 rfl (aw6 (Γ:=Γ)) ?_;refine lR (rC hG) 400 rfl (aw7 (Γ:=Γ)) ?_;refine lR (rC hG) 400 rfl (aw8 (Γ:=Γ)) ?_;refine lR (rC hG) 400 rfl (aw9 (Γ:=Γ)) ?_;refine lR (rC hG) 400 rfl (bKJ (Γ:=Γ)) ?_;refine lR (rC hG) 400 rfl (bKI (Γ:=Γ)) ?_;refine lR (rC hG) 400 rfl (bKH (Γ:=Γ)) ?_;exact bV rfl ⟨_,rfl,bJ _⟩
end Go.Proofs.T
end
section
namespace Go.AM
open Go Go.RowKit
theorem TZ{W:World}{g:Nat}{cs:List Value}{ty:TypeId}{x:Nat×Nat}(h:W.heap[g]? =aA (.cells cs.toArray ty x)):GlobIs W (λ b=>b<W.heap.size) g (cs.map .lit):=by
 have hg:g<W.heap.size:=(dA.1 h).1;refine⟨.rp (λ j=>cs.getD j undef) hg (λ j v hj=>?_) (λ j v hj=>?_),hg,_,_,_,h,sS⟩;.simp only[aP,aG]at hj;obtain⟨u,hu,rfl⟩:=hj;unfold World.cell?;simp[h,hu,oH]
 simp only[aP,aG]at hj;obtain⟨u,hu,rfl⟩:=hj;have e:cs.getD j undef=u:=by simp[oH,hu]
 simp only[e];exact .lit
theorem rG{P:Program}{W:World}{g:Nat}{name:String}{cs:List Value}(hg:P.globalNamed name=aA g)(h:W.var? P name=aA cs.toArray):GlobIs W (λ b=>b<W.heap.size) g (cs.map .lit):=by
 unfold World.var? at h;rw[hg,bNV]at h;split at h;.rename_i c t x hh;cases h;exact TZ hh
 cases h
theorem OY{P:Program}{W:World}{g:Nat}{t:TypeId}{zero:Array Value}{k:IntKind}(h:W.ShapedOpen P)(hg:g<P.globals.size)
 (h0:((begin P (λ _ _=>0) default).world.heap[g]?).bind Obj.row? =aA (zero,t)) (hz:zero.size=1)
 (hb:P.buildable t=aB) (hc:P.cellTypes P.depth t=aA [t]) (hu:P.underlying t=aA (.int k)):∃m,GlobIs W (λ b=>b<W.heap.size) g [.lit (.int k m)]:=by
 obtain⟨m,hm⟩:=Go.Proofs.cell_of_shapedOpen_int h hg h0 hz hb hc hu;obtain⟨cs,hh,hs,_⟩:=h.1 g zero t hg h0
 have e:cs=[bA k m].toArray:=by
  unfold World.cell? at hm;simp only[hh,rQ,aS,if_false]at hm;refine aIG (by simp[hs,hz]) λ i h1 h2=>?_;have:i=0:=by simp at h2;exact h2
  subst this;rw[aQ h1]at hm;simpa using hm
 rw[e]at hh;exact⟨m,TZ hh⟩
theorem ST{P:Program}{Γ:dL}{f:FuncId}{vs:List AVal}{b:Bool}{args:Array Value}{W:World}(hΓ:∀g cells,look Γ g=aA cells->GlobIs W (λ b=>b<W.heap.size) g cells)(h:Pure P Γ f vs (.lit (.bool b)))
 (hv:Vs W (λ b=>b<W.heap.size) bS cI vs args):Calls P f args W λ e W'=>e= .returned (.bool b)/\Below W.heap.size W W':=by
 refine(h 0 cI (λ _ h=>h.elim) W _ bS args ⟨λ _ _=>rfl,λ id B A' hid=>(by simp[bK,look]at hid),λ i j b s t h=>(by cases h),λ b hb=>hb,hΓ⟩ hv).mono ?_;rintro e W' ⟨cv,G',ρ',k',r,H',rfl,⟨rfl,rfl,rfl⟩,_,_,hvr,hst⟩;have e1:cv= .bool b:=by cases hvr;rfl
 subst e1;exact⟨rfl,hst.os,hst.tape,hst.output,hst.size,λ k hk=>hst.keep k hk (λ⟨_,_,h⟩=>by cases h)⟩
theorem ZM{H:Type}{enc:TypeId×Value->H}{a:Assume}{C:Checked}{os:Go.Os}{f:FuncId}{fn:Func}{s:ChangeSpec}{conds:List PathCond}{apart fresh handsOn again:Bool}{X:World->Array Value->Prop}
 (hX:∀(w w':World) (args:Array Value),w.heap=w'.heap->X w args->X w' args)
 (own:ownKnob C.prog.godebug=aC) (started:os.Started) (noInit:C.prog.inits.idxOf? f=aC) (hfn:C.prog.funcs[f]? =aA fn)
 (witness:∃(w:World) (tape:Tape) (i:Input),w.os=os/\(w.forCall tape i).Shaped C.prog/\i.vars=[]/\Input.okWide C.prog (w.forCall tape i) .any w.heap.size f i∧
   ((s.pre enc C.prog fn conds apart (w.forCall tape i).memory i.args/\X (w.forCall tape i).memory i.args)/\sizedMet enc C.prog fn (OpenSpec.ofChange s) apart (w.forCall tape i).memory i.args)/\a.holds C.prog (lone (Frame.enter C.prog f i.args .normal) [] (w.forCall tape i)))
 (contract:∀(W:World) (base:Nat) (args:Array Value) (ds gs:List (DataW H)) (before:List MemPlace),
   (∀(j:Nat) t v,fn.params[j]? =aA t->args[j]? =aA v->bKN C.prog W .any base t v)→
   DataW.Whole enc C.prog fn.params.toList s.vars apart W args.toList ds gs before->W.ShapedOpen C.prog->X W args→
   Calls C.prog f args W λ e W'=>∃v,e= .returned v/\s.post enc C.prog fn apart fresh handsOn again W args v W'):
 ReturnsInHanded a C os f .any (λ w args=>(s.pre enc C.prog fn conds apart w args/\X w args)/\sizedMet enc C.prog fn (OpenSpec.ofChange s) apart w args) (s.post enc C.prog fn apart fresh handsOn again):=by refine returnsInHanded_of_calls own started noInit witness ?_;intro w tape i _ hsh _ hok hpre hholds;obtain⟨_,_,_,fn',hfn',_,_,_,_,hval⟩:=hok;have e:fn'=fn:=aA.inj (hfn'.symm.trans hfn);subst e;obtain⟨⟨⟨ds,gs,before,hw,hc⟩,hx⟩,hz⟩:=hpre;have hw':=DataW.Whole.of_heap (w':=w.forCall tape i) (by rfl) hw;refine(contract (w.forCall tape i) w.heap.size i.args ds gs before hval hw' hsh (hX _ _ _ (by rfl) hx)).mono λ e W' ⟨v,he,hp⟩=>?_;subst he;exact ChangeSpec.post_blind hp
end Go.AM
end
