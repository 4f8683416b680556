/- What functions of the given program compute, each by the abstract machine. Conditions: none beyond the statement's own. -/
import Derived.Test.YtkciioajiopobaaGreatDoorTypes1
import Derived.Test.YtkciioajiopobaaGreatDoorWalks1
import Derived.Test.YtkciioajiopobaaGreatDoorWalks2
import Derived.Test.YtkciioajiopobaaGreatDoorWalks4
set_option linter.all false
noncomputable section
section
open Go Go.Am
namespace Pt
set_option maxRecDepth 100000
abbrev T0.ls:List (Nat × Sig):=[(270,a74.sg),(271,Y4.sg),(272,a62.sg),(273,a8.sg),(274,R4.sg)]
def T0.E:Env:=⟨T,sigL T0.ls,inlL [],annL [],[274],primL [],globL⟩
def T0.raw (m:Nat) (x0:(Ty.den O3)):Option (Args [I6,.bool]):=let y1:=Y4.val x0 (((111:Int),(772:Int),())); bif Y4.dom x0 (((111:Int),(772:Int),())) then (bif decide (y1.1 > (0:Int)) then (let z2:=[(((12486:Int),(12441:Int),()),(12487:Int),()),(((12488:Int),(12441:Int),()),(12489:Int),()),(((12495:Int),(12441:Int),()),(12496:Int),())]; let z3:=(((12479:Int),(12441:Int),()),(12480:Int),()) :: (((12481:Int),(12441:Int),()),(12482:Int),()) :: (((12484:Int),(12441:Int),()),(12485:Int),()) :: z2; let z4:=(((12473:Int),(12441:Int),()),(12474:Int),()) :: (((12475:Int),(12441:Int),()),(12476:Int),()) :: (((12477:Int),(12441:Int),()),(12478:Int),()) :: z3; let z5:=(((12467:Int),(12441:Int),()),(12468:Int),()) :: (((12469:Int),(12441:Int),()),(12470:Int),()) :: (((12471:Int),(12441:Int),()),(12472:Int),()) :: z4; let z6:=(((12461:Int),(12441:Int),()),(12462:Int),()) :: (((12463:Int),(12441:Int),()),(12464:Int),()) :: (((12465:Int),(12441:Int),()),(12466:Int),()) :: z5; let z7:=(((12392:Int),(12441:Int),()),(12393:Int),()) :: (((12399:Int),(12441:Int),()),(12400:Int),()) :: (((12459:Int),(12441:Int),()),(12460:Int),()) :: z6; let z8:=(((12385:Int),(12441:Int),()),(12386:Int),()) :: (((12388:Int),(12441:Int),()),(12389:Int),()) :: (((12390:Int),(12441:Int),()),(12391:Int),()) :: z7; let z9:=(((12379:Int),(12441:Int),()),(12380:Int),()) :: (((12381:Int),(12441:Int),()),(12382:Int),()) :: (((12383:Int),(12441:Int),()),(12384:Int),()) :: z8; let z10:=(((12373:Int),(12441:Int),()),(12374:Int),()) :: (((12375:Int),(12441:Int),()),(12376:Int),()) :: (((12377:Int),(12441:Int),()),(12378:Int),()) :: z9; let z11:=(((12367:Int),(12441:Int),()),(12368:Int),()) :: (((12369:Int),(12441:Int),()),(12370:Int),()) :: (((12371:Int),(12441:Int),()),(12372:Int),()) :: z10; let z12:=(((7885:Int),(770:Int),()),(7897:Int),()) :: (((12363:Int),(12441:Int),()),(12364:Int),()) :: (((12365:Int),(12441:Int),()),(12366:Int),()) :: z11; let z13:=(((7864:Int),(770:Int),()),(7878:Int),()) :: (((7865:Int),(770:Int),()),(7879:Int),()) :: (((7884:Int),(770:Int),()),(7896:Int),()) :: z12; let z14:=(((7840:Int),(774:Int),()),(7862:Int),()) :: (((7841:Int),(770:Int),()),(7853:Int),()) :: (((7841:Int),(774:Int),()),(7863:Int),()) :: z13; let z15:=(((970:Int),(769:Int),()),(912:Int),()) :: (((971:Int),(769:Int),()),(944:Int),()) :: (((7840:Int),(770:Int),()),(7852:Int),()) :: z14; let z16:=(((965:Int),(769:Int),()),(973:Int),()) :: (((965:Int),(776:Int),()),(971:Int),()) :: (((969:Int),(769:Int),()),(974:Int),()) :: z15; let z17:=(((953:Int),(769:Int),()),(943:Int),()) :: (((953:Int),(776:Int),()),(970:Int),()) :: (((959:Int),(769:Int),()),(972:Int),()) :: z16; let z18:=(((945:Int),(769:Int),()),(940:Int),()) :: (((949:Int),(769:Int),()),(941:Int),()) :: (((951:Int),(769:Int),()),(942:Int),()) :: z17; let z19:=(((933:Int),(769:Int),()),(910:Int),()) :: (((933:Int),(776:Int),()),(939:Int),()) :: (((937:Int),(769:Int),()),(911:Int),()) :: z18; let z20:=(((921:Int),(769:Int),()),(906:Int),()) :: (((921:Int),(776:Int),()),(938:Int),()) :: (((927:Int),(769:Int),()),(908:Int),()) :: z19; let z21:=(((913:Int),(769:Int),()),(902:Int),()) :: (((917:Int),(769:Int),()),(904:Int),()) :: (((919:Int),(769:Int),()),(905:Int),()) :: z20; let z22:=(((432:Int),(771:Int),()),(7919:Int),()) :: (((432:Int),(777:Int),()),(7917:Int),()) :: (((432:Int),(803:Int),()),(7921:Int),()) :: z21; let z23:=(((431:Int),(803:Int),()),(7920:Int),()) :: (((432:Int),(768:Int),()),(7915:Int),()) :: (((432:Int),(769:Int),()),(7913:Int),()) :: z22; let z24:=(((431:Int),(769:Int),()),(7912:Int),()) :: (((431:Int),(771:Int),()),(7918:Int),()) :: (((431:Int),(777:Int),()),(7916:Int),()) :: z23; let z25:=(((417:Int),(777:Int),()),(7903:Int),()) :: (((417:Int),(803:Int),()),(7907:Int),()) :: (((431:Int),(768:Int),()),(7914:Int),()) :: z24; let z26:=(((417:Int),(768:Int),()),(7901:Int),()) :: (((417:Int),(769:Int),()),(7899:Int),()) :: (((417:Int),(771:Int),()),(7905:Int),()) :: z25; let z27:=(((416:Int),(771:Int),()),(7904:Int),()) :: (((416:Int),(777:Int),()),(7902:Int),()) :: (((416:Int),(803:Int),()),(7906:Int),()) :: z26; let z28:=(((259:Int),(777:Int),()),(7859:Int),()) :: (((416:Int),(768:Int),()),(7900:Int),()) :: (((416:Int),(769:Int),()),(7898:Int),()) :: z27; let z29:=(((259:Int),(768:Int),()),(7857:Int),()) :: (((259:Int),(769:Int),()),(7855:Int),()) :: (((259:Int),(771:Int),()),(7861:Int),()) :: z28; let z30:=(((258:Int),(769:Int),()),(7854:Int),()) :: (((258:Int),(771:Int),()),(7860:Int),()) :: (((258:Int),(777:Int),()),(7858:Int),()) :: z29; let z31:=(((244:Int),(771:Int),()),(7895:Int),()) :: (((244:Int),(777:Int),()),(7893:Int),()) :: (((258:Int),(768:Int),()),(7856:Int),()) :: z30; let z32:=(((234:Int),(777:Int),()),(7875:Int),()) :: (((244:Int),(768:Int),()),(7891:Int),()) :: (((244:Int),(769:Int),()),(7889:Int),()) :: z31; let z33:=(((234:Int),(768:Int),()),(7873:Int),()) :: (((234:Int),(769:Int),()),(7871:Int),()) :: (((234:Int),(771:Int),()),(7877:Int),()) :: z32; let z34:=(((226:Int),(769:Int),()),(7845:Int),()) :: (((226:Int),(771:Int),()),(7851:Int),()) :: (((226:Int),(777:Int),()),(7849:Int),()) :: z33; let z35:=(((212:Int),(771:Int),()),(7894:Int),()) :: (((212:Int),(777:Int),()),(7892:Int),()) :: (((226:Int),(768:Int),()),(7847:Int),()) :: z34; let z36:=(((202:Int),(777:Int),()),(7874:Int),()) :: (((212:Int),(768:Int),()),(7890:Int),()) :: (((212:Int),(769:Int),()),(7888:Int),()) :: z35; let z37:=(((202:Int),(768:Int),()),(7872:Int),()) :: (((202:Int),(769:Int),()),(7870:Int),()) :: (((202:Int),(771:Int),()),(7876:Int),()) :: z36; let z38:=(((194:Int),(769:Int),()),(7844:Int),()) :: (((194:Int),(771:Int),()),(7850:Int),()) :: (((194:Int),(777:Int),()),(7848:Int),()) :: z37; let z39:=(((122:Int),(775:Int),()),(380:Int),()) :: (((122:Int),(780:Int),()),(382:Int),()) :: (((194:Int),(768:Int),()),(7846:Int),()) :: z38; let z40:=(((121:Int),(777:Int),()),(7927:Int),()) :: (((121:Int),(803:Int),()),(7925:Int),()) :: (((122:Int),(769:Int),()),(378:Int),()) :: z39; let z41:=(((121:Int),(770:Int),()),(375:Int),()) :: (((121:Int),(771:Int),()),(7929:Int),()) :: (((121:Int),(776:Int),()),(255:Int),()) :: z40; let z42:=(((119:Int),(770:Int),()),(373:Int),()) :: (((121:Int),(768:Int),()),(7923:Int),()) :: (((121:Int),(769:Int),()),(253:Int),()) :: z41; let z43:=(((117:Int),(795:Int),()),(432:Int),()) :: (((117:Int),(803:Int),()),(7909:Int),()) :: (((117:Int),(808:Int),()),(371:Int),()) :: z42; let z44:=(((117:Int),(777:Int),()),(7911:Int),()) :: (((117:Int),(778:Int),()),(367:Int),()) :: (((117:Int),(779:Int),()),(369:Int),()) :: z43; let z45:=(((117:Int),(772:Int),()),(363:Int),()) :: (((117:Int),(774:Int),()),(365:Int),()) :: (((117:Int),(776:Int),()),(252:Int),()) :: z44; let z46:=(((117:Int),(769:Int),()),(250:Int),()) :: (((117:Int),(770:Int),()),(251:Int),()) :: (((117:Int),(771:Int),()),(361:Int),()) :: z45; let z47:=(((116:Int),(780:Int),()),(357:Int),()) :: (((116:Int),(807:Int),()),(355:Int),()) :: (((117:Int),(768:Int),()),(249:Int),()) :: z46; let z48:=(((115:Int),(770:Int),()),(349:Int),()) :: (((115:Int),(780:Int),()),(353:Int),()) :: (((115:Int),(807:Int),()),(351:Int),()) :: z47; let z49:=(((114:Int),(780:Int),()),(345:Int),()) :: (((114:Int),(807:Int),()),(343:Int),()) :: (((115:Int),(769:Int),()),(347:Int),()) :: z48; let z50:=(((111:Int),(795:Int),()),(417:Int),()) :: (((111:Int),(803:Int),()),(7885:Int),()) :: (((114:Int),(769:Int),()),(341:Int),()) :: z49; let z51:=(((111:Int),(776:Int),()),(246:Int),()) :: (((111:Int),(777:Int),()),(7887:Int),()) :: (((111:Int),(779:Int),()),(337:Int),()) :: z50; let z52:=(((111:Int),(774:Int),()),(335:Int),()) :: z51; let y53:=a8.val z52 x0 (Option.some (274:Nat)); bif a8.dom z52 x0 (Option.some (274:Nat)) then (bif !y53.2.1 then (some (((0:Int),false,()))) else (bif decide ((0:Int) ≤ y53.1) && decide (y53.1 < (151:Int)) then (some (((z52.getD (Int.toNat y53.1) Y3.dflt).2.1,true,()))) else (none))) else none) else (let z54:=[(((111:Int),(770:Int),()),(244:Int),()),(((111:Int),(771:Int),()),(245:Int),()),(((111:Int),(772:Int),()),(333:Int),())]; let z55:=(((110:Int),(807:Int),()),(326:Int),()) :: (((111:Int),(768:Int),()),(242:Int),()) :: (((111:Int),(769:Int),()),(243:Int),()) :: z54; let z56:=(((110:Int),(769:Int),()),(324:Int),()) :: (((110:Int),(771:Int),()),(241:Int),()) :: (((110:Int),(780:Int),()),(328:Int),()) :: z55; let z57:=(((108:Int),(769:Int),()),(314:Int),()) :: (((108:Int),(780:Int),()),(318:Int),()) :: (((108:Int),(807:Int),()),(316:Int),()) :: z56; let z58:=(((105:Int),(808:Int),()),(303:Int),()) :: (((106:Int),(770:Int),()),(309:Int),()) :: (((107:Int),(807:Int),()),(311:Int),()) :: z57; let z59:=(((105:Int),(776:Int),()),(239:Int),()) :: (((105:Int),(777:Int),()),(7881:Int),()) :: (((105:Int),(803:Int),()),(7883:Int),()) :: z58; let z60:=(((105:Int),(771:Int),()),(297:Int),()) :: (((105:Int),(772:Int),()),(299:Int),()) :: (((105:Int),(774:Int),()),(301:Int),()) :: z59; let z61:=(((105:Int),(768:Int),()),(236:Int),()) :: (((105:Int),(769:Int),()),(237:Int),()) :: (((105:Int),(770:Int),()),(238:Int),()) :: z60; let z62:=(((103:Int),(775:Int),()),(289:Int),()) :: (((103:Int),(807:Int),()),(291:Int),()) :: (((104:Int),(770:Int),()),(293:Int),()) :: z61; let z63:=(((101:Int),(808:Int),()),(281:Int),()) :: (((103:Int),(770:Int),()),(285:Int),()) :: (((103:Int),(774:Int),()),(287:Int),()) :: z62; let z64:=(((101:Int),(777:Int),()),(7867:Int),()) :: (((101:Int),(780:Int),()),(283:Int),()) :: (((101:Int),(803:Int),()),(7865:Int),()) :: z63; let z65:=(((101:Int),(774:Int),()),(277:Int),()) :: (((101:Int),(775:Int),()),(279:Int),()) :: (((101:Int),(776:Int),()),(235:Int),()) :: z64; let z66:=(((101:Int),(770:Int),()),(234:Int),()) :: (((101:Int),(771:Int),()),(7869:Int),()) :: (((101:Int),(772:Int),()),(275:Int),()) :: z65; let z67:=(((100:Int),(780:Int),()),(271:Int),()) :: (((101:Int),(768:Int),()),(232:Int),()) :: (((101:Int),(769:Int),()),(233:Int),()) :: z66; let z68:=(((99:Int),(775:Int),()),(267:Int),()) :: (((99:Int),(780:Int),()),(269:Int),()) :: (((99:Int),(807:Int),()),(231:Int),()) :: z67; let z69:=(((97:Int),(808:Int),()),(261:Int),()) :: (((99:Int),(769:Int),()),(263:Int),()) :: (((99:Int),(770:Int),()),(265:Int),()) :: z68; let z70:=(((97:Int),(777:Int),()),(7843:Int),()) :: (((97:Int),(778:Int),()),(229:Int),()) :: (((97:Int),(803:Int),()),(7841:Int),()) :: z69; let z71:=(((97:Int),(772:Int),()),(257:Int),()) :: (((97:Int),(774:Int),()),(259:Int),()) :: (((97:Int),(776:Int),()),(228:Int),()) :: z70; let z72:=(((97:Int),(769:Int),()),(225:Int),()) :: (((97:Int),(770:Int),()),(226:Int),()) :: (((97:Int),(771:Int),()),(227:Int),()) :: z71; let z73:=(((90:Int),(775:Int),()),(379:Int),()) :: (((90:Int),(780:Int),()),(381:Int),()) :: (((97:Int),(768:Int),()),(224:Int),()) :: z72; let z74:=(((89:Int),(777:Int),()),(7926:Int),()) :: (((89:Int),(803:Int),()),(7924:Int),()) :: (((90:Int),(769:Int),()),(377:Int),()) :: z73; let z75:=(((89:Int),(770:Int),()),(374:Int),()) :: (((89:Int),(771:Int),()),(7928:Int),()) :: (((89:Int),(776:Int),()),(376:Int),()) :: z74; let z76:=(((87:Int),(770:Int),()),(372:Int),()) :: (((89:Int),(768:Int),()),(7922:Int),()) :: (((89:Int),(769:Int),()),(221:Int),()) :: z75; let z77:=(((85:Int),(795:Int),()),(431:Int),()) :: (((85:Int),(803:Int),()),(7908:Int),()) :: (((85:Int),(808:Int),()),(370:Int),()) :: z76; let z78:=(((85:Int),(777:Int),()),(7910:Int),()) :: (((85:Int),(778:Int),()),(366:Int),()) :: (((85:Int),(779:Int),()),(368:Int),()) :: z77; let z79:=(((85:Int),(772:Int),()),(362:Int),()) :: (((85:Int),(774:Int),()),(364:Int),()) :: (((85:Int),(776:Int),()),(220:Int),()) :: z78; let z80:=(((85:Int),(769:Int),()),(218:Int),()) :: (((85:Int),(770:Int),()),(219:Int),()) :: (((85:Int),(771:Int),()),(360:Int),()) :: z79; let z81:=(((84:Int),(780:Int),()),(356:Int),()) :: (((84:Int),(807:Int),()),(354:Int),()) :: (((85:Int),(768:Int),()),(217:Int),()) :: z80; let z82:=(((83:Int),(770:Int),()),(348:Int),()) :: (((83:Int),(780:Int),()),(352:Int),()) :: (((83:Int),(807:Int),()),(350:Int),()) :: z81; let z83:=(((82:Int),(780:Int),()),(344:Int),()) :: (((82:Int),(807:Int),()),(342:Int),()) :: (((83:Int),(769:Int),()),(346:Int),()) :: z82; let z84:=(((79:Int),(795:Int),()),(416:Int),()) :: (((79:Int),(803:Int),()),(7884:Int),()) :: (((82:Int),(769:Int),()),(340:Int),()) :: z83; let z85:=(((79:Int),(776:Int),()),(214:Int),()) :: (((79:Int),(777:Int),()),(7886:Int),()) :: (((79:Int),(779:Int),()),(336:Int),()) :: z84; let z86:=(((79:Int),(771:Int),()),(213:Int),()) :: (((79:Int),(772:Int),()),(332:Int),()) :: (((79:Int),(774:Int),()),(334:Int),()) :: z85; let z87:=(((79:Int),(768:Int),()),(210:Int),()) :: (((79:Int),(769:Int),()),(211:Int),()) :: (((79:Int),(770:Int),()),(212:Int),()) :: z86; let z88:=(((78:Int),(771:Int),()),(209:Int),()) :: (((78:Int),(780:Int),()),(327:Int),()) :: (((78:Int),(807:Int),()),(325:Int),()) :: z87; let z89:=(((76:Int),(780:Int),()),(317:Int),()) :: (((76:Int),(807:Int),()),(315:Int),()) :: (((78:Int),(769:Int),()),(323:Int),()) :: z88; let z90:=(((74:Int),(770:Int),()),(308:Int),()) :: (((75:Int),(807:Int),()),(310:Int),()) :: (((76:Int),(769:Int),()),(313:Int),()) :: z89; let z91:=(((73:Int),(777:Int),()),(7880:Int),()) :: (((73:Int),(803:Int),()),(7882:Int),()) :: (((73:Int),(808:Int),()),(302:Int),()) :: z90; let z92:=(((73:Int),(774:Int),()),(300:Int),()) :: (((73:Int),(775:Int),()),(304:Int),()) :: (((73:Int),(776:Int),()),(207:Int),()) :: z91; let z93:=(((73:Int),(770:Int),()),(206:Int),()) :: (((73:Int),(771:Int),()),(296:Int),()) :: (((73:Int),(772:Int),()),(298:Int),()) :: z92; let z94:=(((72:Int),(770:Int),()),(292:Int),()) :: (((73:Int),(768:Int),()),(204:Int),()) :: (((73:Int),(769:Int),()),(205:Int),()) :: z93; let z95:=(((71:Int),(774:Int),()),(286:Int),()) :: (((71:Int),(775:Int),()),(288:Int),()) :: (((71:Int),(807:Int),()),(290:Int),()) :: z94; let z96:=(((69:Int),(803:Int),()),(7864:Int),()) :: (((69:Int),(808:Int),()),(280:Int),()) :: (((71:Int),(770:Int),()),(284:Int),()) :: z95; let z97:=(((69:Int),(776:Int),()),(203:Int),()) :: (((69:Int),(777:Int),()),(7866:Int),()) :: (((69:Int),(780:Int),()),(282:Int),()) :: z96; let z98:=(((69:Int),(772:Int),()),(274:Int),()) :: (((69:Int),(774:Int),()),(276:Int),()) :: (((69:Int),(775:Int),()),(278:Int),()) :: z97; let z99:=(((69:Int),(769:Int),()),(201:Int),()) :: (((69:Int),(770:Int),()),(202:Int),()) :: (((69:Int),(771:Int),()),(7868:Int),()) :: z98; let z100:=(((67:Int),(807:Int),()),(199:Int),()) :: (((68:Int),(780:Int),()),(270:Int),()) :: (((69:Int),(768:Int),()),(200:Int),()) :: z99; let z101:=(((67:Int),(770:Int),()),(264:Int),()) :: (((67:Int),(775:Int),()),(266:Int),()) :: (((67:Int),(780:Int),()),(268:Int),()) :: z100; let z102:=(((65:Int),(803:Int),()),(7840:Int),()) :: (((65:Int),(808:Int),()),(260:Int),()) :: (((67:Int),(769:Int),()),(262:Int),()) :: z101; let z103:=(((65:Int),(776:Int),()),(196:Int),()) :: (((65:Int),(777:Int),()),(7842:Int),()) :: (((65:Int),(778:Int),()),(197:Int),()) :: z102; let z104:=(((65:Int),(771:Int),()),(195:Int),()) :: (((65:Int),(772:Int),()),(256:Int),()) :: (((65:Int),(774:Int),()),(258:Int),()) :: z103; let z105:=(((65:Int),(768:Int),()),(192:Int),()) :: (((65:Int),(769:Int),()),(193:Int),()) :: (((65:Int),(770:Int),()),(194:Int),()) :: z104; let y106:=a8.val z105 x0 (Option.some (274:Nat)); bif a8.dom z105 x0 (Option.some (274:Nat)) then (bif !y106.2.1 then (some (((0:Int),false,()))) else (bif decide ((0:Int) ≤ y106.1) && decide (y106.1 < (156:Int)) then (some (((z105.getD (Int.toNat y106.1) Y3.dflt).2.1,true,()))) else (none))) else none)) else none
def T0.val (x0:(Ty.den O3)):=(T0.raw fuel x0).getD (dfltA [I6,.bool])
def T0.dom (x0:(Ty.den O3)):=(T0.raw fuel x0).isSome
def T0.sg:Sig:=⟨[O3],[I6,.bool],false,fun x=>T0.dom x.1,fun x=>T0.val x.1⟩
theorem T0.eq (m:Nat) (x0:(Ty.den O3)):runS T0.E Go.Proofs.Tryz.f247 T0.sg (nL m) (x0,()) = T0.raw m x0:=by kernel_rfl
theorem T0.told (h:Base0) (hs:AllT T0.ls):Told 247 T0.sg :=
 T5 h fn247 (il:=[]) (pl:=[]) hs trivial trivial (L:=(fun _ _ _ _=>none)) a14 (fun x=>T0.eq fuel x.1)
end Pt
end
section
open Go Go.Am
open IntKind (i64 u64 u8 i32 u32)
namespace Pt
set_option maxRecDepth 100000
abbrev U8.ls:List (Nat × Sig):=[(246,R9.sg),(247,T0.sg)]
def U8.E:Env:=mkE U8.ls
def U8.raw (m:Nat) (x0:Int) (x1:Int):Option (Args [I6,.bool]):=let y1:=R9.val x0 ((4352:Int)) ((4370:Int)); bif R9.dom x0 ((4352:Int)) ((4370:Int)) then (bif y1.1 then (let y2:=R9.val x1 ((4449:Int)) ((4469:Int)); bif R9.dom x1 ((4449:Int)) ((4469:Int)) then (bif y2.1 then (some ((i64.wrap ((44032:Int) + i64.wrap (i64.wrap (i64.wrap (i64.wrap (i64.wrap (x0 - (4352:Int)) * (21:Int)) + x1) - (4449:Int)) * (28:Int))),true,()))) else (let y3:=R9.val x0 ((44032:Int)) ((55203:Int)); bif R9.dom x0 ((44032:Int)) ((55203:Int)) then (bif y3.1 then (bif (i64.wrap (x0 - (44032:Int))).tmod (28:Int) == (0:Int) then (let y4:=R9.val x1 ((4520:Int)) ((4546:Int)); bif R9.dom x1 ((4520:Int)) ((4546:Int)) then (bif y4.1 then (some ((i64.wrap (i64.wrap (x0 + x1) - (4519:Int)),true,()))) else (let y5:=T0.val ((x0,x1,())); bif T0.dom ((x0,x1,())) then (some y5) else none)) else none) else (let y6:=T0.val ((x0,x1,())); bif T0.dom ((x0,x1,())) then (some y6) else none)) else (let y7:=T0.val ((x0,x1,())); bif T0.dom ((x0,x1,())) then (some y7) else none)) else none)) else none) else (let y8:=R9.val x0 ((44032:Int)) ((55203:Int)); bif R9.dom x0 ((44032:Int)) ((55203:Int)) then (bif y8.1 then (bif (i64.wrap (x0 - (44032:Int))).tmod (28:Int) == (0:Int) then (let y9:=R9.val x1 ((4520:Int)) ((4546:Int)); bif R9.dom x1 ((4520:Int)) ((4546:Int)) then (bif y9.1 then (some ((i64.wrap (i64.wrap (x0 + x1) - (4519:Int)),true,()))) else (let y10:=T0.val ((x0,x1,())); bif T0.dom ((x0,x1,())) then (some y10) else none)) else none) else (let y11:=T0.val ((x0,x1,())); bif T0.dom ((x0,x1,())) then (some y11) else none)) else (let y12:=T0.val ((x0,x1,())); bif T0.dom ((x0,x1,())) then (some y12) else none)) else none)) else none
def U8.val (x0:Int) (x1:Int):=(U8.raw fuel x0 x1).getD (dfltA [I6,.bool])
def U8.dom (x0:Int) (x1:Int):=(U8.raw fuel x0 x1).isSome
def U8.sg:Sig:=⟨[I6,I6],[I6,.bool],false,fun x=>U8.dom x.1 x.2.1,fun x=>U8.val x.1 x.2.1⟩
theorem U8.eq (m:Nat) (x0:Int) (x1:Int):runS U8.E Go.Proofs.Tryz.f223 U8.sg (nL m) (x0,(x1,())) = U8.raw m x0 x1:=by kernel_rfl
theorem U8.told(h:Base0) (hs:AllT U8.ls):Told 223 U8.sg :=
 told_n h fn223 hs (fun x=>U8.eq fuel x.1 x.2.1)
abbrev C4.ls:List (Nat × Sig):=[(202,O0.sg),(223,U8.sg)]
def C4.E:Env:=⟨T,sigL C4.ls,inlL [(195,Go.Proofs.Tryz.f195),(222,Go.Proofs.Tryz.f222)],annL [(10003,⟨some [3,7,8,9],[(0,some 0,I6)],[],some [3]⟩)],[],primL [],globL⟩
def C4.l0 (K0:Int → Int → (Ty.den SI) → Option (Args [SI])):Nat → (Ty.den SI) → Int → Int → Int → Int → (Ty.den SI) → Option (Args [SI])
 | 0,_,_,_,_,_,_=>none
 | m + 1,v1,v2,v3,v4,v5,v6=>bif decide (v3 < v2) then (bif decide ((0:Int) ≤ v3) && decide (v3 < (↑(List.length v1):Int)) then (let y7:=O0.val (List.getD v1 (Int.toNat v3) (0:Int)); bif O0.dom (List.getD v1 (Int.toNat v3) (0:Int)) then (bif decide (v4 ≥ (0:Int)) then (bif v4 == i64.wrap ((↑(List.length v6):Int) - (1:Int)) then (bif decide ((0:Int) ≤ v4) && decide (v4 < (↑(List.length v6):Int)) then (bif decide (Int.toNat v4 < List.length v6) then (let y8:=U8.val (List.getD v6 (Int.toNat v4) (0:Int)) (List.getD v1 (Int.toNat v3) (0:Int)); bif U8.dom (List.getD v6 (Int.toNat v4) (0:Int)) (List.getD v1 (Int.toNat v3) (0:Int)) then (bif y8.2.1 then (bif decide ((0:Int) ≤ v4) && decide (v4 < (↑(List.length v6):Int)) then (bif decide (Int.toNat v4 < List.length v6) then (C4.l0 K0 m v1 v2 (i64.wrap (v3 + (1:Int))) v4 v5 (List.set v6 (Int.toNat v4) y8.1)) else (none)) else (none)) else (let z9:=List.length v6 + [List.getD v1 (Int.toNat v3) (0:Int)].length; bif decide (z9 * (8:Nat) ≤ (140737488355328:Nat)) && decide (z9 ≤ lim) then (bif y7.1 == (0:Int) then (let z10:=v6 ++ [List.getD v1 (Int.toNat v3) (0:Int)]; C4.l0 K0 m v1 v2 (i64.wrap (v3 + (1:Int))) (i64.wrap ((↑z10.length:Int) - (1:Int))) y7.1 z10) else (C4.l0 K0 m v1 v2 (i64.wrap (v3 + (1:Int))) v4 y7.1 (v6 ++ [List.getD v1 (Int.toNat v3) (0:Int)]))) else (none))) else none) else (none)) else (none)) else (bif decide (v5 < y7.1) then (bif decide ((0:Int) ≤ v4) && decide (v4 < (↑(List.length v6):Int)) then (bif decide (Int.toNat v4 < List.length v6) then (let y11:=U8.val (List.getD v6 (Int.toNat v4) (0:Int)) (List.getD v1 (Int.toNat v3) (0:Int)); bif U8.dom (List.getD v6 (Int.toNat v4) (0:Int)) (List.getD v1 (Int.toNat v3) (0:Int)) then (bif y11.2.1 then (bif decide ((0:Int) ≤ v4) && decide (v4 < (↑(List.length v6):Int)) then (bif decide (Int.toNat v4 < List.length v6) then (C4.l0 K0 m v1 v2 (i64.wrap (v3 + (1:Int))) v4 v5 (List.set v6 (Int.toNat v4) y11.1)) else (none)) else (none)) else (let z12:=List.length v6 + [List.getD v1 (Int.toNat v3) (0:Int)].length; bif decide (z12 * (8:Nat) ≤ (140737488355328:Nat)) && decide (z12 ≤ lim) then (bif y7.1 == (0:Int) then (let z13:=v6 ++ [List.getD v1 (Int.toNat v3) (0:Int)]; C4.l0 K0 m v1 v2 (i64.wrap (v3 + (1:Int))) (i64.wrap ((↑z13.length:Int) - (1:Int))) y7.1 z13) else (C4.l0 K0 m v1 v2 (i64.wrap (v3 + (1:Int))) v4 y7.1 (v6 ++ [List.getD v1 (Int.toNat v3) (0:Int)]))) else (none))) else none) else (none)) else (none)) else (let z14:=List.length v6 + [List.getD v1 (Int.toNat v3) (0:Int)].length; bif decide (z14 * (8:Nat) ≤ (140737488355328:Nat)) && decide (z14 ≤ lim) then (bif y7.1 == (0:Int) then (let z15:=v6 ++ [List.getD v1 (Int.toNat v3) (0:Int)]; C4.l0 K0 m v1 v2 (i64.wrap (v3 + (1:Int))) (i64.wrap ((↑z15.length:Int) - (1:Int))) y7.1 z15) else (C4.l0 K0 m v1 v2 (i64.wrap (v3 + (1:Int))) v4 y7.1 (v6 ++ [List.getD v1 (Int.toNat v3) (0:Int)]))) else (none)))) else (let z16:=List.length v6 + [List.getD v1 (Int.toNat v3) (0:Int)].length; bif decide (z16 * (8:Nat) ≤ (140737488355328:Nat)) && decide (z16 ≤ lim) then (bif y7.1 == (0:Int) then (let z17:=v6 ++ [List.getD v1 (Int.toNat v3) (0:Int)]; C4.l0 K0 m v1 v2 (i64.wrap (v3 + (1:Int))) (i64.wrap ((↑z17.length:Int) - (1:Int))) y7.1 z17) else (C4.l0 K0 m v1 v2 (i64.wrap (v3 + (1:Int))) v4 y7.1 (v6 ++ [List.getD v1 (Int.toNat v3) (0:Int)]))) else (none))) else none) else (none)) else (K0 v4 v5 v6)
def C4.l0.t:St:=⟨jka 8 [jk,jk,jk,.one (.sc (.ptr 0 0)),jk,jk,jk,zv SI,zv I6,zv I6],[.cells [.own 1 0,zl I6,zl I6],.row I6 true 0 []],0⟩
def C4.l0.e0:St:=⟨jka 14 [jk,jk,jk,.one (.sc (.ptr 0 0))],[.cells [.own 1 0,zl I6,zl I6],.row I6 true 0 []],0⟩
def C4.raw (m:Nat) (x0:(Ty.den SI)):Option (Args [SI]):=C4.l0 (fun o18 o19 o20=>some ((o20,()))) m x0 ((↑(List.length x0):Int)) ((0:Int)) ((-1:Int)) ((0:Int)) (nl Int)
def C4.val (x0:(Ty.den SI)):=(C4.raw fuel x0).getD (dfltA [SI])
def C4.dom (x0:(Ty.den SI)):=(C4.raw fuel x0).isSome
def C4.sg:Sig:=⟨[SI],[SI],false,fun x=>C4.dom x.1,fun x=>C4.val x.1⟩
noncomputable def C4.q0 (m:Nat) (s:St) (k:X → St → Option (Args [SI])):Option (Args [SI]) :=
 match unSt C4.l0.t [SI,I6,I6,I6,I6,SI] s with
  | some x=>C4.l0 (fun o0 o1 o2=>k (.exit 0) (mkSt C4.l0.e0 [I6,I6,SI] (o0,(o1,(o2,()))))) m x.1 x.2.1 x.2.2.1 x.2.2.2.1 x.2.2.2.2.1 x.2.2.2.2.2.1
  | none=>none
noncomputable def C4.L (m:Nat) (c:Code) (s:St) (k:X → St → Option (Args [SI])):Option (Args [SI]) :=
 match O9 c with
 | some r=>bif Nat.beq r 10003 then (C4.q0 m s k) else none
 | none=>none
theorem C4.cs_eq:loopsL Go.Proofs.Tryz.f174 [(195,Go.Proofs.Tryz.f195),(222,Go.Proofs.Tryz.f222)] = [(loopsL Go.Proofs.Tryz.f174 [(195,Go.Proofs.Tryz.f195),(222,Go.Proofs.Tryz.f222)]).getD 0 .skip]:=by kernel_rfl
theorem C4.good:Good (C4.E) (fun c=>c ∈ loopsL Go.Proofs.Tryz.f174 [(195,Go.Proofs.Tryz.f195),(222,Go.Proofs.Tryz.f222)]) C4.L:=by
 have cases:∀ c,c ∈ loopsL Go.Proofs.Tryz.f174 [(195,Go.Proofs.Tryz.f195),(222,Go.Proofs.Tryz.f222)] → c = (loopsL Go.Proofs.Tryz.f174 [(195,Go.Proofs.Tryz.f195),(222,Go.Proofs.Tryz.f222)]).getD 0 .skip:=by
  intro c hc; rw [C4.cs_eq] at hc; simpa only [List.mem_cons,List.not_mem_nil,or_false] using hc
 refine ⟨?_,?_,fun c hc=>T4 c hc⟩
 ·intro c s k r hc h
  rcases cases c hc with rfl
  ·have h':C4.q0 0 s k = some r:=Eq.trans (by kernel_rfl) h
   unfold C4.q0 at h'
   split at h'
   ·rename_i x hx
    have h2:(none:Option (Args [SI])) = some r:=Eq.trans (by kernel_rfl) h'
    cases h2
   cases h'
 ·intro m c s k r hc h
  rcases cases c hc with rfl
  ·have h':C4.q0 (m + 1) s k = some r:=Eq.trans (by kernel_rfl) h
   unfold C4.q0 at h'
   split at h'
   ·rename_i x hx
    rw [O8 hx]
    exact Eq.trans (by kernel_rfl) h'
   cases h'
theorem C4.eq (m:Nat) (x0:(Ty.den SI)):runS C4.E Go.Proofs.Tryz.f174 C4.sg (C4.L m) (x0,()) = C4.raw m x0:=by kernel_rfl
theorem C4.told (h:Base0) (hs:AllT C4.ls):Told 174 C4.sg :=
 T5 h fn174 (il:=[(195,Go.Proofs.Tryz.f195),(222,Go.Proofs.Tryz.f222)]) (pl:=[]) hs ⟨fn195,⟨fn222,trivial⟩⟩ trivial (L:=C4.L) C4.good (fun x=>C4.eq fuel x.1)
abbrev C0.ls:List (Nat × Sig):=[(173,S8.sg),(175,R0.sg),(170,C1.sg),(192,R2.sg),(193,O1.sg),(202,O0.sg),(174,C4.sg),(223,U8.sg)]
def C0.E:Env:=⟨T,sigL C0.ls,inlL [(176,Go.Proofs.Tryz.f176),(201,Go.Proofs.Tryz.f201)],annL [(19005,⟨some [4,6,16,17,18],[(2,some 1,I6)],[(4,E7),(6,E7)],some [4,6]⟩),(25005,⟨some [0,1,4],[],[],some [0,1,4]⟩)],[],primL [(203,B01)],globL⟩
def C0.l3 (K0:Int → Int → (Ty.den SI) → (Ty.den SI) → (Ty.den SI) → Option (Args [E7,SI])):Nat → Int → Int → (Ty.den SI) → (Ty.den SI) → (Ty.den SI) → Option (Args [E7,SI])
 | 0,_,_,_,_,_=>none
 | m + 1,v65,v66,v67,v68,v69=>bif decide (v66 > (0:Int)) then (bif decide ((0:Int) ≤ i64.wrap (v66 - (1:Int))) && decide (i64.wrap (v66 - (1:Int)) < (↑(List.length v68):Int)) then (let z70:=List.getD v68 (i64.wrap (v66 - (1:Int))).toNat (0:Int); let y71:=O0.val z70; bif O0.dom z70 then (let y72:=O0.val v65; bif O0.dom v65 then (bif decide (y71.1 > y72.1) then (C0.l3 K0 m v65 (i64.wrap (v66 - (1:Int))) v67 v68 v69) else (K0 v65 v66 v67 v68 v69)) else none) else none) else (none)) else (K0 v65 v66 v67 v68 v69)
def C0.l3.t:St:=⟨jka 53 [.one (.sc (.ptr 2 0)),zv I6,jk,jk,zv I6],[.free,.cells [zl SI],.cells [zl SI,.own 3 0],.row I6 false 0 [],.free],5⟩
def C0.l3.e0:St:=C0.l3.t
def C0.l2 (K0:Int → Int → (Ty.den SI) → (Ty.den SI) → (Ty.den SI) → Option (Args [E7,SI])):Nat → Int → Int → (Ty.den SI) → (Ty.den SI) → (Ty.den SI) → Option (Args [E7,SI])
 | 0,_,_,_,_,_=>none
 | m + 1,v33,v34,v35,v36,v37=>bif decide (v34 > (0:Int)) then (bif decide ((0:Int) ≤ i64.wrap (v34 - (1:Int))) && decide (i64.wrap (v34 - (1:Int)) < (↑(List.length v37):Int)) then (bif decide ((i64.wrap (v34 - (1:Int))).toNat < List.length v37) then (let z38:=List.getD v37 (i64.wrap (v34 - (1:Int))).toNat (0:Int); let y39:=O0.val z38; bif O0.dom z38 then (let y40:=O0.val v33; bif O0.dom v33 then (bif decide (y39.1 > y40.1) then (C0.l2 K0 m v33 (i64.wrap (v34 - (1:Int))) v35 v36 v37) else (K0 v33 v34 v35 v36 v37)) else none) else none) else (none)) else (none)) else (K0 v33 v34 v35 v36 v37)
def C0.l2.t:St:=⟨jka 53 [.one (.sc (.ptr 2 0)),zv I6,jk,jk,zv I6],[.free,.cells [zl SI],.cells [.own 6 0,.own 3 1],.row I6 false 1 [],.free,.free,.row I6 true 0 []],5⟩
def C0.l2.e0:St:=C0.l2.t
def C0.l1 (K0:Int → Int → (Ty.den SI) → (Ty.den SI) → (Ty.den SI) → Option (Args [E7,SI])):Nat → Int → Int → (Ty.den SI) → (Ty.den SI) → (Ty.den SI) → Option (Args [E7,SI])
 | 0,_,_,_,_,_=>none
 | m + 1,v17,v18,v19,v20,v21=>bif decide (v18 > (0:Int)) then (bif decide ((0:Int) ≤ i64.wrap (v18 - (1:Int))) && decide (i64.wrap (v18 - (1:Int)) < (↑(List.length v21):Int)) then (bif decide ((i64.wrap (v18 - (1:Int))).toNat < List.length v21) then (let z22:=List.getD v21 (i64.wrap (v18 - (1:Int))).toNat (0:Int); let y23:=O0.val z22; bif O0.dom z22 then (let y24:=O0.val v17; bif O0.dom v17 then (bif decide (y23.1 > y24.1) then (C0.l1 K0 m v17 (i64.wrap (v18 - (1:Int))) v19 v20 v21) else (K0 v17 v18 v19 v20 v21)) else none) else none) else (none)) else (none)) else (K0 v17 v18 v19 v20 v21)
def C0.l1.t:St:=⟨jka 53 [.one (.sc (.ptr 2 0)),zv I6,jk,jk,zv I6],[.free,.cells [zl SI],.cells [.own 6 0,.own 3 0],.row I6 false 0 [],.free,.free,.row I6 true 0 []],5⟩
def C0.l1.e0:St:=C0.l1.t
def C0.l0 (K0:(Ty.den SI) → (Ty.den SI) → (Ty.den SI) → Option (Args [E7,SI])):Nat → (Ty.den SI) → Int → Int → (Ty.den SI) → (Ty.den SI) → (Ty.den SI) → Option (Args [E7,SI])
 | 0,_,_,_,_,_,_=>none
 | m + 1,v3,v4,v5,v6,v7,v8=>bif decide (v5 < v4) then (bif decide ((0:Int) ≤ v5) && decide (v5 < (↑(List.length v3):Int)) then (let y9:=R2.val (List.getD v3 (Int.toNat v5) (0:Int)); bif R2.dom (List.getD v3 (Int.toNat v5) (0:Int)) then (bif !y9.1 then (let y10:=C4.val v7; bif C4.dom v7 then (bif (↑(List.length y10.1):Int) == (1:Int) then (bif decide ((0:Int) < (↑(List.length y10.1):Int)) then (let y11:=R2.val (List.getD y10.1 (0:Nat) (0:Int)); bif R2.dom (List.getD y10.1 (0:Nat) (0:Int)) then (bif !y11.1 then (bif decide ((0:Int) < (↑(List.length y10.1):Int)) then (let y12:=U8.val (List.getD y10.1 (0:Nat) (0:Int)) (List.getD v3 (Int.toNat v5) (0:Int)); bif U8.dom (List.getD y10.1 (0:Nat) (0:Int)) (List.getD v3 (Int.toNat v5) (0:Int)) then (bif y12.2.1 then (C0.l0 K0 m v3 v4 (i64.wrap (v5 + (1:Int))) v6 [y12.1] v8) else (bif decide ((List.length v8 + List.length y10.1) * (8:Nat) ≤ (140737488355328:Nat)) && decide (List.length v8 + List.length y10.1 ≤ lim) then (C0.l0 K0 m v3 v4 (i64.wrap (v5 + (1:Int))) v6 ([List.getD v3 (Int.toNat v5) (0:Int)]) (v8 ++ y10.1)) else (none))) else none) else (none)) else (bif decide ((List.length v8 + List.length y10.1) * (8:Nat) ≤ (140737488355328:Nat)) && decide (List.length v8 + List.length y10.1 ≤ lim) then (C0.l0 K0 m v3 v4 (i64.wrap (v5 + (1:Int))) v6 ([List.getD v3 (Int.toNat v5) (0:Int)]) (v8 ++ y10.1)) else (none))) else none) else (none)) else (bif decide ((List.length v8 + List.length y10.1) * (8:Nat) ≤ (140737488355328:Nat)) && decide (List.length v8 + List.length y10.1 ≤ lim) then (C0.l0 K0 m v3 v4 (i64.wrap (v5 + (1:Int))) v6 ([List.getD v3 (Int.toNat v5) (0:Int)]) (v8 ++ y10.1)) else (none))) else none) else (let y13:=O1.val ((v7,())); bif O1.dom ((v7,())) then (bif y13.1 == (30:Int) then (let y14:=C4.val v7; bif C4.dom v7 then (bif (↑(List.length y14.1):Int) == (1:Int) then (bif decide ((0:Int) < (↑(List.length y14.1):Int)) then (let y15:=R2.val (List.getD y14.1 (0:Nat) (0:Int)); bif R2.dom (List.getD y14.1 (0:Nat) (0:Int)) then (bif !y15.1 then (bif decide ((0:Int) < (↑(List.length y14.1):Int)) then (let y16:=U8.val (List.getD y14.1 (0:Nat) (0:Int)) ((847:Int)); bif U8.dom (List.getD y14.1 (0:Nat) (0:Int)) ((847:Int)) then (bif y16.2.1 then (C0.l1 (fun o25 o26 o27 o28 o29=>let y30:=C1.val o29; bif C1.dom o29 then (let z31:=List.length y30.1 + [o25].length; let z32:=decide ((0:Int) ≤ o26) && decide (o26 ≤ (↑(List.length y30.1):Int)) && decide ((0:Nat) < [o25].length) && decide (z31 * (1:Nat) * (8:Nat) ≤ (70368744177664:Nat)) && decide (z31 ≤ (1099511627776:Nat)); bif z32 then (C0.l0 K0 m v3 v4 (i64.wrap (v5 + (1:Int))) o27 (List.take (Int.toNat o26) y30.1 ++ [o25] ++ List.drop (Int.toNat o26) y30.1) o28) else (none)) else none) m (List.getD v3 (Int.toNat v5) (0:Int)) ((↑[y16.1].length:Int)) v6 v8 [y16.1]) else (bif decide ((List.length v8 + List.length y14.1) * (8:Nat) ≤ (140737488355328:Nat)) && decide (List.length v8 + List.length y14.1 ≤ lim) then (C0.l2 (fun o41 o42 o43 o44 o45=>let y46:=C1.val o45; bif C1.dom o45 then (let z47:=List.length y46.1 + [o41].length; let z48:=decide ((0:Int) ≤ o42) && decide (o42 ≤ (↑(List.length y46.1):Int)) && decide ((0:Nat) < [o41].length) && decide (z47 * (1:Nat) * (8:Nat) ≤ (70368744177664:Nat)) && decide (z47 ≤ (1099511627776:Nat)); bif z48 then (C0.l0 K0 m v3 v4 (i64.wrap (v5 + (1:Int))) o43 (List.take (Int.toNat o42) y46.1 ++ [o41] ++ List.drop (Int.toNat o42) y46.1) o44) else (none)) else none) m (List.getD v3 (Int.toNat v5) (0:Int)) ((1:Int)) v6 (v8 ++ y14.1) ([(847:Int)])) else (none))) else none) else (none)) else (bif decide ((List.length v8 + List.length y14.1) * (8:Nat) ≤ (140737488355328:Nat)) && decide (List.length v8 + List.length y14.1 ≤ lim) then (C0.l2 (fun o49 o50 o51 o52 o53=>let y54:=C1.val o53; bif C1.dom o53 then (let z55:=List.length y54.1 + [o49].length; let z56:=decide ((0:Int) ≤ o50) && decide (o50 ≤ (↑(List.length y54.1):Int)) && decide ((0:Nat) < [o49].length) && decide (z55 * (1:Nat) * (8:Nat) ≤ (70368744177664:Nat)) && decide (z55 ≤ (1099511627776:Nat)); bif z56 then (C0.l0 K0 m v3 v4 (i64.wrap (v5 + (1:Int))) o51 (List.take (Int.toNat o50) y54.1 ++ [o49] ++ List.drop (Int.toNat o50) y54.1) o52) else (none)) else none) m (List.getD v3 (Int.toNat v5) (0:Int)) ((1:Int)) v6 (v8 ++ y14.1) ([(847:Int)])) else (none))) else none) else (none)) else (bif decide ((List.length v8 + List.length y14.1) * (8:Nat) ≤ (140737488355328:Nat)) && decide (List.length v8 + List.length y14.1 ≤ lim) then (C0.l2 (fun o57 o58 o59 o60 o61=>let y62:=C1.val o61; bif C1.dom o61 then (let z63:=List.length y62.1 + [o57].length; let z64:=decide ((0:Int) ≤ o58) && decide (o58 ≤ (↑(List.length y62.1):Int)) && decide ((0:Nat) < [o57].length) && decide (z63 * (1:Nat) * (8:Nat) ≤ (70368744177664:Nat)) && decide (z63 ≤ (1099511627776:Nat)); bif z64 then (C0.l0 K0 m v3 v4 (i64.wrap (v5 + (1:Int))) o59 (List.take (Int.toNat o58) y62.1 ++ [o57] ++ List.drop (Int.toNat o58) y62.1) o60) else (none)) else none) m (List.getD v3 (Int.toNat v5) (0:Int)) ((1:Int)) v6 (v8 ++ y14.1) ([(847:Int)])) else (none))) else none) else (C0.l3 (fun o73 o74 o75 o76 o77=>let y78:=C1.val o76; bif C1.dom o76 then (let z79:=List.length y78.1 + [o73].length; let z80:=decide ((0:Int) ≤ o74) && decide (o74 ≤ (↑(List.length y78.1):Int)) && decide ((0:Nat) < [o73].length) && decide (z79 * (1:Nat) * (8:Nat) ≤ (70368744177664:Nat)) && decide (z79 ≤ (1099511627776:Nat)); bif z80 then (C0.l0 K0 m v3 v4 (i64.wrap (v5 + (1:Int))) o75 (List.take (Int.toNat o74) y78.1 ++ [o73] ++ List.drop (Int.toNat o74) y78.1) o77) else (none)) else none) m (List.getD v3 (Int.toNat v5) (0:Int)) ((↑(List.length v7):Int)) v6 v7 v8)) else none)) else none) else (none)) else (K0 v6 v7 v8)
def C0.l0.t:St:=⟨jka 10 [jk,jk,jk,jk,.one (.sc (.ptr 1 0)),jk,.one (.sc (.ptr 2 0)),jk,jk,jk,jk,jk,jk,jk,jk,jk,zv SI,zv I6,zv I6],[.free,.cells [zl SI],.cells [zl SI,.own 3 0],.row I6 false 0 []],0⟩
def C0.l0.e0:St:=⟨jka 22 [jk,jk,jk,jk,.one (.sc (.ptr 1 0)),jk,.one (.sc (.ptr 2 0))],[.free,.cells [zl SI],.cells [zl SI,.own 3 0],.row I6 false 0 []],0⟩
def C0.raw (m:Nat) (x0:(Ty.den E7)) (x1:Int):Option (Args [E7,SI]):=let y1:=S8.val x0; bif S8.dom x0 then (bif !y1.1 then (let y2:=R0.val x1; bif R0.dom x1 then (C0.l0 (fun o81 o82 o83=>some (((o82,()),o83,()))) m y2.1 ((↑(List.length y2.1):Int)) ((0:Int)) (nl Int) (nl Int) (nl Int)) else none) else (let y84:=R0.val x1; bif R0.dom x1 then (C0.l0 (fun o85 o86 o87=>some (((o86,()),o87,()))) m y84.1 ((↑(List.length y84.1):Int)) ((0:Int)) (nl Int) x0.1 (nl Int)) else none)) else none
def C0.val (x0:(Ty.den E7)) (x1:Int):=(C0.raw fuel x0 x1).getD (dfltA [E7,SI])
def C0.dom (x0:(Ty.den E7)) (x1:Int):=(C0.raw fuel x0 x1).isSome
def C0.sg:Sig:=⟨[E7,I6],[E7,SI],false,fun x=>C0.dom x.1 x.2.1,fun x=>C0.val x.1 x.2.1⟩
noncomputable def C0.q0 (m:Nat) (s:St) (k:X → St → Option (Args [E7,SI])):Option (Args [E7,SI]) :=
 match unSt C0.l0.t [SI,I6,I6,SI,SI,SI] s with
  | some x=>C0.l0 (fun o0 o1 o2=>k (.exit 0) (mkSt C0.l0.e0 [SI,SI,SI] (o0,(o1,(o2,()))))) m x.1 x.2.1 x.2.2.1 x.2.2.2.1 x.2.2.2.2.1 x.2.2.2.2.2.1
  | none=>none
noncomputable def C0.q1 (m:Nat) (s:St) (k:X → St → Option (Args [E7,SI])):Option (Args [E7,SI]) :=
 match unSt C0.l1.t [I6,I6,SI,SI,SI] s with
  | some x=>C0.l1 (fun o0 o1 o2 o3 o4=>k (.exit 0) (mkSt C0.l1.e0 [I6,I6,SI,SI,SI] (o0,(o1,(o2,(o3,(o4,()))))))) m x.1 x.2.1 x.2.2.1 x.2.2.2.1 x.2.2.2.2.1
  | none=>(match unSt C0.l2.t [I6,I6,SI,SI,SI] s with
  | some x=>C0.l2 (fun o0 o1 o2 o3 o4=>k (.exit 0) (mkSt C0.l2.e0 [I6,I6,SI,SI,SI] (o0,(o1,(o2,(o3,(o4,()))))))) m x.1 x.2.1 x.2.2.1 x.2.2.2.1 x.2.2.2.2.1
  | none=>(match unSt C0.l3.t [I6,I6,SI,SI,SI] s with
  | some x=>C0.l3 (fun o0 o1 o2 o3 o4=>k (.exit 0) (mkSt C0.l3.e0 [I6,I6,SI,SI,SI] (o0,(o1,(o2,(o3,(o4,()))))))) m x.1 x.2.1 x.2.2.1 x.2.2.2.1 x.2.2.2.2.1
  | none=>none))
noncomputable def C0.L (m:Nat) (c:Code) (s:St) (k:X → St → Option (Args [E7,SI])):Option (Args [E7,SI]) :=
 match O9 c with
 | some r=>bif Nat.beq r 19005 then (C0.q0 m s k) else bif Nat.beq r 25005 then (C0.q1 m s k) else none
 | none=>none
theorem C0.cs_eq:loopsL Go.Proofs.Tryz.f151 [(176,Go.Proofs.Tryz.f176),(201,Go.Proofs.Tryz.f201)] = [(loopsL Go.Proofs.Tryz.f151 [(176,Go.Proofs.Tryz.f176),(201,Go.Proofs.Tryz.f201)]).getD 0 .skip,(loopsL Go.Proofs.Tryz.f151 [(176,Go.Proofs.Tryz.f176),(201,Go.Proofs.Tryz.f201)]).getD 1 .skip]:=by kernel_rfl
theorem C0.good:Good (C0.E) (fun c=>c ∈ loopsL Go.Proofs.Tryz.f151 [(176,Go.Proofs.Tryz.f176),(201,Go.Proofs.Tryz.f201)]) C0.L:=by
 have cases:∀ c,c ∈ loopsL Go.Proofs.Tryz.f151 [(176,Go.Proofs.Tryz.f176),(201,Go.Proofs.Tryz.f201)] → c = (loopsL Go.Proofs.Tryz.f151 [(176,Go.Proofs.Tryz.f176),(201,Go.Proofs.Tryz.f201)]).getD 0 .skip ∨ c = (loopsL Go.Proofs.Tryz.f151 [(176,Go.Proofs.Tryz.f176),(201,Go.Proofs.Tryz.f201)]).getD 1 .skip:=by
  intro c hc; rw [C0.cs_eq] at hc; simpa only [List.mem_cons,List.not_mem_nil,or_false] using hc
 refine ⟨?_,?_,fun c hc=>T4 c hc⟩
 ·intro c s k r hc h
  rcases cases c hc with rfl | rfl
  ·have h':C0.q0 0 s k = some r:=Eq.trans (by kernel_rfl) h
   unfold C0.q0 at h'
   split at h'
   ·rename_i x hx
    have h2:(none:Option (Args [E7,SI])) = some r:=Eq.trans (by kernel_rfl) h'
    cases h2
   cases h'
  ·have h':C0.q1 0 s k = some r:=Eq.trans (by kernel_rfl) h
   unfold C0.q1 at h'
   split at h'
   ·rename_i x hx
    have h2:(none:Option (Args [E7,SI])) = some r:=Eq.trans (by kernel_rfl) h'
    cases h2
   split at h'
   ·rename_i x hx
    have h2:(none:Option (Args [E7,SI])) = some r:=Eq.trans (by kernel_rfl) h'
    cases h2
   split at h'
   ·rename_i x hx
    have h2:(none:Option (Args [E7,SI])) = some r:=Eq.trans (by kernel_rfl) h'
    cases h2
   cases h'
 ·intro m c s k r hc h
  rcases cases c hc with rfl | rfl
  ·have h':C0.q0 (m + 1) s k = some r:=Eq.trans (by kernel_rfl) h
   unfold C0.q0 at h'
   split at h'
   ·rename_i x hx
    rw [O8 hx]
    exact Eq.trans (by kernel_rfl) h'
   cases h'
  ·have h':C0.q1 (m + 1) s k = some r:=Eq.trans (by kernel_rfl) h
   unfold C0.q1 at h'
   split at h'
   ·rename_i x hx
    rw [O8 hx]
    exact Eq.trans (by kernel_rfl) h'
   split at h'
   ·rename_i x hx
    rw [O8 hx]
    exact Eq.trans (by kernel_rfl) h'
   split at h'
   ·rename_i x hx
    rw [O8 hx]
    exact Eq.trans (by kernel_rfl) h'
   cases h'
theorem C0.eq (m:Nat) (x0:(Ty.den E7)) (x1:Int):runS C0.E Go.Proofs.Tryz.f151 C0.sg (C0.L m) (x0,(x1,())) = C0.raw m x0 x1:=by kernel_rfl
theorem C0.told (h:Base0) (hs:AllT C0.ls) (hp:AllP [(203,B01)]):Told 151 C0.sg :=
 T5 h fn151 (il:=[(176,Go.Proofs.Tryz.f176),(201,Go.Proofs.Tryz.f201)]) (pl:=[(203,B01)]) hs ⟨fn176,⟨fn201,trivial⟩⟩ hp (L:=C0.L) C0.good (fun x=>C0.eq fuel x.1 x.2.1)
end Pt
end
section
open Go Go.Am
namespace Pt
set_option maxRecDepth 100000
abbrev U2.ls:List (Nat × Sig):=[(151,C0.sg)]
def U2.E:Env:=mkE U2.ls
def U2.raw (m:Nat) (x0:(Ty.den B9)) (x1:Int):Option (Args [B9,SI]):=let y1:=C0.val x0.2.2.1 x1; bif C0.dom x0.2.2.1 x1 then (some (((x0.1,x0.2.1,y1.1,x0.2.2.2),y1.2))) else none
def U2.val (x0:(Ty.den B9)) (x1:Int):=(U2.raw fuel x0 x1).getD (dfltA [B9,SI])
def U2.dom (x0:(Ty.den B9)) (x1:Int):=(U2.raw fuel x0 x1).isSome
def U2.sg:Sig:=⟨[B9,I6],[B9,SI],false,fun x=>U2.dom x.1 x.2.1,fun x=>U2.val x.1 x.2.1⟩
theorem U2.eq (m:Nat) (x0:(Ty.den B9)) (x1:Int):runS U2.E Go.Proofs.Tryz.f263 U2.sg (nL m) (x0,(x1,())) = U2.raw m x0 x1:=by kernel_rfl
theorem U2.told(h:Base0) (hs:AllT U2.ls):Told 263 U2.sg :=
 told_n h fn263 hs (fun x=>U2.eq fuel x.1 x.2.1)
end Pt
end
section
open Go Go.Am
namespace Pt
def a56:List (Int × List Int):=[
 (0x00B5,[0x03BC]),(0x00DF,[0x0073,0x0073]),(0x0130,[0x0069,0x0307]),(0x0149,[0x02BC,0x006E]),(0x0178,[0x00FF]),
 (0x017F,[0x0073]),(0x01A6,[0x0280]),(0x01A7,[0x01A8]),(0x01A9,[0x0283]),(0x01AC,[0x01AD]),(0x01AE,[0x0288]),(0x01AF,[0x01B0]),
 (0x0345,[0x03B9]),(0x0386,[0x03AC]),(0x038C,[0x03CC]),(0x038E,[0x03CD]),(0x038F,[0x03CE]),
 (0x0390,[0x03B9,0x0308,0x0301]),(0x03B0,[0x03C5,0x0308,0x0301]),(0x03C2,[0x03C3])]
def rulesL:List (Int × Int × Int × Int):=[
 (0x0041,0x005A,1,32),(0x00C0,0x00D6,1,32),(0x00D8,0x00DE,1,32),(0x0100,0x012E,2,1),
 (0x0132,0x0136,2,1),(0x0139,0x0147,2,1),(0x014A,0x0176,2,1),(0x0179,0x017D,2,1),
 (0x01A0,0x01A4,2,1),(0x0388,0x038A,1,37),(0x0391,0x03A1,1,32),(0x03A3,0x03AB,1,32),
 (0x1EA0,0x1EF8,2,1)]
def ruled (r:Int):List (Int × Int × Int × Int) → List Int
 | []=>[r]
 | x :: l=>bif decide (x.1 ≤ r) && decide (r ≤ x.2.1) && ((r - x.1) % x.2.2.1 == 0) then [r + x.2.2.2] else ruled r l
def foldS (r:Int):List Int :=
 match a56.find? fun p=>p.1 == r with
 | some p=>p.2
 | none=>ruled r rulesL
def a96.val (x0:Int):Args [.slice I6]:=(foldS x0,())
def a96.dom (_:Int):Bool:=true
def a96.sg:Sig:=⟨[.int .i64],[.slice I6],false,fun x=>a96.dom x.1,fun x=>a96.val x.1⟩
end Pt
end
section
open Go Go.Am
open IntKind (i64 u64 u8 i32 u32)
namespace Pt
set_option maxRecDepth 100000
abbrev N3.ls:List (Nat × Sig):=[(218,a96.sg)]
def N3.E:Env:=⟨T,sigL N3.ls,inlL [],annL [(9003,⟨some [3,6,7,8],[(3,none,I6)],[],some [3]⟩)],[],primL [],globL⟩
def N3.l0 (K0:(Ty.den SI) → Option (Args [SI])):Nat → (Ty.den SI) → Int → Int → (Ty.den SI) → Option (Args [SI])
 | 0,_,_,_,_=>none
 | m + 1,v1,v2,v3,v4=>bif decide (v3 < v2) then (bif decide ((0:Int) ≤ v3) && decide (v3 < (↑(List.length v1):Int)) then (let z5:=List.length v4 + (foldS (List.getD v1 (Int.toNat v3) (0:Int))).length; bif decide (z5 * (8:Nat) ≤ (140737488355328:Nat)) && decide (z5 ≤ lim) then (N3.l0 K0 m v1 v2 (i64.wrap (v3 + (1:Int))) (v4 ++ foldS (List.getD v1 (Int.toNat v3) (0:Int)))) else (none)) else (none)) else (K0 v4)
def N3.l0.t:St:=⟨jka 9 [jk,jk,jk,.one (.sc (.own 0 0)),jk,jk,zv SI,zv I6,zv I6],[.row I6 true 0 []],0⟩
def N3.l0.e0:St:=⟨jka 14 [jk,jk,jk,.one (.sc (.own 0 0))],[.row I6 true 0 []],0⟩
def N3.raw (m:Nat) (x0:(Ty.den SI)):Option (Args [SI]):=N3.l0 (fun o6=>some ((o6,()))) m x0 ((↑(List.length x0):Int)) ((0:Int)) (nl (Ty.int i64).den)
def N3.val (x0:(Ty.den SI)):=(N3.raw fuel x0).getD (dfltA [SI])
def N3.dom (x0:(Ty.den SI)):=(N3.raw fuel x0).isSome
def N3.sg:Sig:=⟨[SI],[SI],true,fun x=>N3.dom x.1,fun x=>N3.val x.1⟩
noncomputable def N3.q0 (m:Nat) (s:St) (k:X → St → Option (Args [SI])):Option (Args [SI]) :=
 match unSt N3.l0.t [SI,I6,I6,SI] s with
  | some x=>N3.l0 (fun o0=>k (.exit 0) (mkSt N3.l0.e0 [SI] (o0,()))) m x.1 x.2.1 x.2.2.1 x.2.2.2.1
  | none=>none
noncomputable def N3.L (m:Nat) (c:Code) (s:St) (k:X → St → Option (Args [SI])):Option (Args [SI]) :=
 match O9 c with
 | some r=>bif Nat.beq r 9003 then (N3.q0 m s k) else none
 | none=>none
theorem N3.cs_eq:loopsL Go.Proofs.Tryz.f188 [] = [(loopsL Go.Proofs.Tryz.f188 []).getD 0 .skip]:=by kernel_rfl
theorem N3.good:Good (N3.E) (fun c=>c ∈ loopsL Go.Proofs.Tryz.f188 []) N3.L:=by
 have cases:∀ c,c ∈ loopsL Go.Proofs.Tryz.f188 [] → c = (loopsL Go.Proofs.Tryz.f188 []).getD 0 .skip:=by
  intro c hc; rw [N3.cs_eq] at hc; simpa only [List.mem_cons,List.not_mem_nil,or_false] using hc
 refine ⟨?_,?_,fun c hc=>T4 c hc⟩
 ·intro c s k r hc h
  rcases cases c hc with rfl
  ·have h':N3.q0 0 s k = some r:=Eq.trans (by kernel_rfl) h
   unfold N3.q0 at h'
   split at h'
   ·rename_i x hx
    have h2:(none:Option (Args [SI])) = some r:=Eq.trans (by kernel_rfl) h'
    cases h2
   cases h'
 ·intro m c s k r hc h
  rcases cases c hc with rfl
  ·have h':N3.q0 (m + 1) s k = some r:=Eq.trans (by kernel_rfl) h
   unfold N3.q0 at h'
   split at h'
   ·rename_i x hx
    rw [O8 hx]
    exact Eq.trans (by kernel_rfl) h'
   cases h'
theorem N3.eq (m:Nat) (x0:(Ty.den SI)):runS N3.E Go.Proofs.Tryz.f188 N3.sg (N3.L m) (x0,()) = N3.raw m x0:=by kernel_rfl
theorem N3.told (h:Base0) (hs:AllT N3.ls):Told 188 N3.sg :=
 T5 h fn188 (il:=[]) (pl:=[]) hs trivial trivial (L:=N3.L) N3.good (fun x=>N3.eq fuel x.1)
end Pt
end
section
open Go Go.Am
namespace Pt
set_option maxRecDepth 100000
abbrev U0.ls:List (Nat × Sig):=[(188,N3.sg),(189,R5.sg)]
def U0.E:Env:=⟨T,sigL U0.ls,inlL [],annL [],[189],primL [(187,B05)],globL⟩
def U0.raw (m:Nat) (x0:(Ty.den SI)):Option (Args [SI]):=let y1:=N3.val x0; bif N3.dom x0 then (bif List.all y1.1 fun x=>R5.dom x then (some ((List.filter (fun x=>!(R5.val x).1) y1.1,()))) else (none)) else none
def U0.val (x0:(Ty.den SI)):=(U0.raw fuel x0).getD (dfltA [SI])
def U0.dom (x0:(Ty.den SI)):=(U0.raw fuel x0).isSome
def U0.sg:Sig:=⟨[SI],[SI],false,fun x=>U0.dom x.1,fun x=>U0.val x.1⟩
theorem U0.eq (m:Nat) (x0:(Ty.den SI)):runS U0.E Go.Proofs.Tryz.f172 U0.sg (nL m) (x0,()) = U0.raw m x0:=by kernel_rfl
theorem U0.told (h:Base0) (hs:AllT U0.ls) (hp:AllP [(187,B05)]):Told 172 U0.sg :=
 T5 h fn172 (il:=[]) (pl:=[(187,B05)]) hs trivial hp (L:=(fun _ _ _ _=>none)) a14 (fun x=>U0.eq fuel x.1)
end Pt
end
section
open Go Go.Am
open IntKind (i64 u64 u8 i32 u32)
namespace Pt
set_option maxRecDepth 100000
abbrev E6.ls:List (Nat × Sig):=[(173,S8.sg),(151,C0.sg),(172,U0.sg)]
def E6.E:Env:=⟨T,sigL E6.ls,inlL [(149,Go.Proofs.Tryz.f149),(171,Go.Proofs.Tryz.f171)],annL [(13003,⟨some [1,4,10,11,12],[(4,none,I6),(0,some 0,.pair I6 .unit)],[],some [4]⟩)],[],primL [],globL⟩
def E6.l0 (K0:(Ty.den SI) → (Ty.den SI) → Option (Args [E7,SI])):Nat → (Ty.den SI) → Int → Int → (Ty.den SI) → (Ty.den SI) → Option (Args [E7,SI])
 | 0,_,_,_,_,_=>none
 | m + 1,v3,v4,v5,v6,v7=>bif decide (v5 < v4) then (bif decide ((0:Int) ≤ v5) && decide (v5 < (↑(List.length v3):Int)) then (let y8:=C0.val ((v6,())) (List.getD v3 (Int.toNat v5) (0:Int)); bif C0.dom ((v6,())) (List.getD v3 (Int.toNat v5) (0:Int)) then (bif decide ((List.length v7 + List.length y8.2.1) * (8:Nat) ≤ (140737488355328:Nat)) && decide (List.length v7 + List.length y8.2.1 ≤ lim) then (E6.l0 K0 m v3 v4 (i64.wrap (v5 + (1:Int))) y8.1.1 (v7 ++ y8.2.1)) else (none)) else none) else (none)) else (K0 v6 v7)
def E6.l0.t:St:=⟨jka 18 [jk,.one (.sc (.ptr 4 0)),jk,jk,.one (.sc (.own 6 0)),jk,jk,jk,jk,jk,zv SI,zv I6,zv I6],[.cells [zl SI],.cells [.nilS],.free,.free,.cells [.ptr 0 0],.free,.row I6 true 0 []],5⟩
def E6.l0.e0:St:=⟨jka 26 [jk,jk,jk,jk,.one (.sc (.own 6 0))],[.cells [zl SI],.cells [.nilS],.free,.free,.cells [.ptr 0 0],.free,.row I6 true 0 []],5⟩
def E6.raw (m:Nat) (x0:(Ty.den E7)) (x1:Int):Option (Args [E7,SI]):=let y1:=S8.val x0; bif S8.dom x0 then (bif !y1.1 then (let y2:=U0.val [x1]; bif U0.dom [x1] then (E6.l0 (fun o9 o10=>some (((o9,()),o10,()))) m y2.1 ((↑(List.length y2.1):Int)) ((0:Int)) (nl Int) (nl Int)) else none) else (let y11:=U0.val [x1]; bif U0.dom [x1] then (E6.l0 (fun o12 o13=>some (((o12,()),o13,()))) m y11.1 ((↑(List.length y11.1):Int)) ((0:Int)) x0.1 (nl Int)) else none)) else none
def E6.val (x0:(Ty.den E7)) (x1:Int):=(E6.raw fuel x0 x1).getD (dfltA [E7,SI])
def E6.dom (x0:(Ty.den E7)) (x1:Int):=(E6.raw fuel x0 x1).isSome
def E6.sg:Sig:=⟨[E7,I6],[E7,SI],false,fun x=>E6.dom x.1 x.2.1,fun x=>E6.val x.1 x.2.1⟩
noncomputable def E6.q0 (m:Nat) (s:St) (k:X → St → Option (Args [E7,SI])):Option (Args [E7,SI]) :=
 match unSt E6.l0.t [SI,I6,I6,SI,SI] s with
  | some x=>E6.l0 (fun o0 o1=>k (.exit 0) (mkSt E6.l0.e0 [SI,SI] (o0,(o1,())))) m x.1 x.2.1 x.2.2.1 x.2.2.2.1 x.2.2.2.2.1
  | none=>none
noncomputable def E6.L (m:Nat) (c:Code) (s:St) (k:X → St → Option (Args [E7,SI])):Option (Args [E7,SI]) :=
 match O9 c with
 | some r=>bif Nat.beq r 13003 then (E6.q0 m s k) else none
 | none=>none
theorem E6.cs_eq:loopsL Go.Proofs.Tryz.f299 [(149,Go.Proofs.Tryz.f149),(171,Go.Proofs.Tryz.f171)] = [(loopsL Go.Proofs.Tryz.f299 [(149,Go.Proofs.Tryz.f149),(171,Go.Proofs.Tryz.f171)]).getD 0 .skip]:=by kernel_rfl
theorem E6.good:Good (E6.E) (fun c=>c ∈ loopsL Go.Proofs.Tryz.f299 [(149,Go.Proofs.Tryz.f149),(171,Go.Proofs.Tryz.f171)]) E6.L:=by
 have cases:∀ c,c ∈ loopsL Go.Proofs.Tryz.f299 [(149,Go.Proofs.Tryz.f149),(171,Go.Proofs.Tryz.f171)] → c = (loopsL Go.Proofs.Tryz.f299 [(149,Go.Proofs.Tryz.f149),(171,Go.Proofs.Tryz.f171)]).getD 0 .skip:=by
  intro c hc; rw [E6.cs_eq] at hc; simpa only [List.mem_cons,List.not_mem_nil,or_false] using hc
 refine ⟨?_,?_,fun c hc=>T4 c hc⟩
 ·intro c s k r hc h
  rcases cases c hc with rfl
  ·have h':E6.q0 0 s k = some r:=Eq.trans (by kernel_rfl) h
   unfold E6.q0 at h'
   split at h'
   ·rename_i x hx
    have h2:(none:Option (Args [E7,SI])) = some r:=Eq.trans (by kernel_rfl) h'
    cases h2
   cases h'
 ·intro m c s k r hc h
  rcases cases c hc with rfl
  ·have h':E6.q0 (m + 1) s k = some r:=Eq.trans (by kernel_rfl) h
   unfold E6.q0 at h'
   split at h'
   ·rename_i x hx
    rw [O8 hx]
    exact Eq.trans (by kernel_rfl) h'
   cases h'
theorem E6.eq (m:Nat) (x0:(Ty.den E7)) (x1:Int):runS E6.E Go.Proofs.Tryz.f299 E6.sg (E6.L m) (x0,(x1,())) = E6.raw m x0 x1:=by kernel_rfl
theorem E6.told (h:Base0) (hs:AllT E6.ls):Told 299 E6.sg :=
 T5 h fn299 (il:=[(149,Go.Proofs.Tryz.f149),(171,Go.Proofs.Tryz.f171)]) (pl:=[]) hs ⟨fn149,⟨fn171,trivial⟩⟩ trivial (L:=E6.L) E6.good (fun x=>E6.eq fuel x.1 x.2.1)
end Pt
end
section
open Go Go.Am
namespace Pt
set_option maxRecDepth 100000
abbrev U1.ls:List (Nat × Sig):=[(299,E6.sg)]
def U1.E:Env:=mkE U1.ls
def U1.raw (m:Nat) (x0:(Ty.den B9)) (x1:Int):Option (Args [B9,SI]):=let y1:=E6.val x0.2.2.1 x1; bif E6.dom x0.2.2.1 x1 then (some (((x0.1,x0.2.1,y1.1,x0.2.2.2),y1.2))) else none
def U1.val (x0:(Ty.den B9)) (x1:Int):=(U1.raw fuel x0 x1).getD (dfltA [B9,SI])
def U1.dom (x0:(Ty.den B9)) (x1:Int):=(U1.raw fuel x0 x1).isSome
def U1.sg:Sig:=⟨[B9,I6],[B9,SI],false,fun x=>U1.dom x.1 x.2.1,fun x=>U1.val x.1 x.2.1⟩
theorem U1.eq (m:Nat) (x0:(Ty.den B9)) (x1:Int):runS U1.E Go.Proofs.Tryz.f264 U1.sg (nL m) (x0,(x1,())) = U1.raw m x0 x1:=by kernel_rfl
theorem U1.told(h:Base0) (hs:AllT U1.ls):Told 264 U1.sg :=
 told_n h fn264 hs (fun x=>U1.eq fuel x.1 x.2.1)
def a58.E:Env:=mkE []
def a58.raw (m:Nat) :Option (Args [(.slice N9)]):=let z1:=[((127995:Int),(127999:Int),(4:Int),()),((128000:Int),(128591:Int),(14:Int),()),((128640:Int),(128767:Int),(14:Int),()),((129280:Int),(129535:Int),(14:Int),())]; let z2:=((65024:Int),(65039:Int),(4:Int),()) :: ((65279:Int),(65279:Int),(3:Int),()) :: ((127462:Int),(127487:Int),(6:Int),()) :: ((127744:Int),(127994:Int),(14:Int),()) :: z1; let z3:=((9889:Int),(9889:Int),(14:Int),()) :: ((9989:Int),(9989:Int),(14:Int),()) :: ((10084:Int),(10084:Int),(14:Int),()) :: ((12441:Int),(12442:Int),(4:Int),()) :: z2; let z4:=((9745:Int),(9745:Int),(14:Int),()) :: ((9748:Int),(9749:Int),(14:Int),()) :: ((9786:Int),(9786:Int),(14:Int),()) :: ((9829:Int),(9829:Int),(14:Int),()) :: z3; let z5:=((8505:Int),(8505:Int),(14:Int),()) :: ((8596:Int),(8601:Int),(14:Int),()) :: ((8986:Int),(8987:Int),(14:Int),()) :: ((9728:Int),(9732:Int),(14:Int),()) :: z4; let z6:=((8265:Int),(8265:Int),(14:Int),()) :: ((8288:Int),(8303:Int),(3:Int),()) :: ((8400:Int),(8432:Int),(4:Int),()) :: ((8482:Int),(8482:Int),(14:Int),()) :: z5; let z7:=((8205:Int),(8205:Int),(5:Int),()) :: ((8206:Int),(8207:Int),(3:Int),()) :: ((8232:Int),(8238:Int),(3:Int),()) :: ((8252:Int),(8252:Int),(14:Int),()) :: z6; let z8:=((4448:Int),(4519:Int),(10:Int),()) :: ((4520:Int),(4607:Int),(11:Int),()) :: ((8203:Int),(8203:Int),(3:Int),()) :: ((8204:Int),(8204:Int),(4:Int),()) :: z7; let z9:=((2366:Int),(2368:Int),(8:Int),()) :: ((2377:Int),(2380:Int),(8:Int),()) :: ((2381:Int),(2381:Int),(4:Int),()) :: ((4352:Int),(4447:Int),(9:Int),()) :: z8; let z10:=((1757:Int),(1757:Int),(7:Int),()) :: ((2307:Int),(2307:Int),(8:Int),()) :: ((2363:Int),(2363:Int),(8:Int),()) :: ((2364:Int),(2364:Int),(4:Int),()) :: z9; let z11:=((768:Int),(879:Int),(4:Int),()) :: ((1536:Int),(1541:Int),(7:Int),()) :: ((1564:Int),(1564:Int),(3:Int),()) :: ((1611:Int),(1631:Int),(4:Int),()) :: z10; let z12:=((127:Int),(159:Int),(3:Int),()) :: ((169:Int),(169:Int),(14:Int),()) :: ((173:Int),(173:Int),(3:Int),()) :: ((174:Int),(174:Int),(14:Int),()) :: z11; let z13:=((10:Int),(10:Int),(2:Int),()) :: ((11:Int),(12:Int),(3:Int),()) :: ((13:Int),(13:Int),(1:Int),()) :: ((14:Int),(31:Int),(3:Int),()) :: z12; some ((((0:Int),(9:Int),(3:Int),()) :: z13,()))
def a58.val :=(a58.raw fuel ).getD (dfltA [(.slice N9)])
def a58.dom :=(a58.raw fuel ).isSome
def a58.sg:Sig:=⟨[],[(.slice N9)],false,fun x=>a58.dom ,fun x=>a58.val ⟩
theorem a58.eq (m:Nat) :runS a58.E Go.Proofs.Tryz.f214 a58.sg (nL m) () = a58.raw m :=by kernel_rfl
theorem a58.told(h:Base0):Told 214 a58.sg :=
 told_n h fn214 (l:=[]) trivial (fun x=>a58.eq fuel )
end Pt
end
section
open Go Go.Am
open IntKind (i64 u64 u8 i32 u32)
namespace Pt
set_option maxRecDepth 100000
abbrev Y0.ls:List (Nat × Sig):=[(213,Y6.sg),(214,a58.sg)]
def Y0.E:Env:=mkE Y0.ls
def Y0.raw (m:Nat) (x0:Int):Option (Args [I6]):=bif decide (x0 < (44032:Int)) then (let z1:=[((127995:Int),(127999:Int),(4:Int),()),((128000:Int),(128591:Int),(14:Int),()),((128640:Int),(128767:Int),(14:Int),()),((129280:Int),(129535:Int),(14:Int),())]; let z2:=((65024:Int),(65039:Int),(4:Int),()) :: ((65279:Int),(65279:Int),(3:Int),()) :: ((127462:Int),(127487:Int),(6:Int),()) :: ((127744:Int),(127994:Int),(14:Int),()) :: z1; let z3:=((9889:Int),(9889:Int),(14:Int),()) :: ((9989:Int),(9989:Int),(14:Int),()) :: ((10084:Int),(10084:Int),(14:Int),()) :: ((12441:Int),(12442:Int),(4:Int),()) :: z2; let z4:=((9745:Int),(9745:Int),(14:Int),()) :: ((9748:Int),(9749:Int),(14:Int),()) :: ((9786:Int),(9786:Int),(14:Int),()) :: ((9829:Int),(9829:Int),(14:Int),()) :: z3; let z5:=((8505:Int),(8505:Int),(14:Int),()) :: ((8596:Int),(8601:Int),(14:Int),()) :: ((8986:Int),(8987:Int),(14:Int),()) :: ((9728:Int),(9732:Int),(14:Int),()) :: z4; let z6:=((8265:Int),(8265:Int),(14:Int),()) :: ((8288:Int),(8303:Int),(3:Int),()) :: ((8400:Int),(8432:Int),(4:Int),()) :: ((8482:Int),(8482:Int),(14:Int),()) :: z5; let z7:=((8205:Int),(8205:Int),(5:Int),()) :: ((8206:Int),(8207:Int),(3:Int),()) :: ((8232:Int),(8238:Int),(3:Int),()) :: ((8252:Int),(8252:Int),(14:Int),()) :: z6; let z8:=((4448:Int),(4519:Int),(10:Int),()) :: ((4520:Int),(4607:Int),(11:Int),()) :: ((8203:Int),(8203:Int),(3:Int),()) :: ((8204:Int),(8204:Int),(4:Int),()) :: z7; let z9:=((2366:Int),(2368:Int),(8:Int),()) :: ((2377:Int),(2380:Int),(8:Int),()) :: ((2381:Int),(2381:Int),(4:Int),()) :: ((4352:Int),(4447:Int),(9:Int),()) :: z8; let z10:=((1757:Int),(1757:Int),(7:Int),()) :: ((2307:Int),(2307:Int),(8:Int),()) :: ((2363:Int),(2363:Int),(8:Int),()) :: ((2364:Int),(2364:Int),(4:Int),()) :: z9; let z11:=((768:Int),(879:Int),(4:Int),()) :: ((1536:Int),(1541:Int),(7:Int),()) :: ((1564:Int),(1564:Int),(3:Int),()) :: ((1611:Int),(1631:Int),(4:Int),()) :: z10; let z12:=((127:Int),(159:Int),(3:Int),()) :: ((169:Int),(169:Int),(14:Int),()) :: ((173:Int),(173:Int),(3:Int),()) :: ((174:Int),(174:Int),(14:Int),()) :: z11; let z13:=((10:Int),(10:Int),(2:Int),()) :: ((11:Int),(12:Int),(3:Int),()) :: ((13:Int),(13:Int),(1:Int),()) :: ((14:Int),(31:Int),(3:Int),()) :: z12; let z14:=((0:Int),(9:Int),(3:Int),()) :: z13; let y15:=Y6.val z14 x0; bif Y6.dom z14 x0 then (some y15.1.2.2) else none) else (bif decide (x0 > (55203:Int)) then (let z16:=[((127995:Int),(127999:Int),(4:Int),()),((128000:Int),(128591:Int),(14:Int),()),((128640:Int),(128767:Int),(14:Int),()),((129280:Int),(129535:Int),(14:Int),())]; let z17:=((65024:Int),(65039:Int),(4:Int),()) :: ((65279:Int),(65279:Int),(3:Int),()) :: ((127462:Int),(127487:Int),(6:Int),()) :: ((127744:Int),(127994:Int),(14:Int),()) :: z16; let z18:=((9889:Int),(9889:Int),(14:Int),()) :: ((9989:Int),(9989:Int),(14:Int),()) :: ((10084:Int),(10084:Int),(14:Int),()) :: ((12441:Int),(12442:Int),(4:Int),()) :: z17; let z19:=((9745:Int),(9745:Int),(14:Int),()) :: ((9748:Int),(9749:Int),(14:Int),()) :: ((9786:Int),(9786:Int),(14:Int),()) :: ((9829:Int),(9829:Int),(14:Int),()) :: z18; let z20:=((8505:Int),(8505:Int),(14:Int),()) :: ((8596:Int),(8601:Int),(14:Int),()) :: ((8986:Int),(8987:Int),(14:Int),()) :: ((9728:Int),(9732:Int),(14:Int),()) :: z19; let z21:=((8265:Int),(8265:Int),(14:Int),()) :: ((8288:Int),(8303:Int),(3:Int),()) :: ((8400:Int),(8432:Int),(4:Int),()) :: ((8482:Int),(8482:Int),(14:Int),()) :: z20; let z22:=((8205:Int),(8205:Int),(5:Int),()) :: ((8206:Int),(8207:Int),(3:Int),()) :: ((8232:Int),(8238:Int),(3:Int),()) :: ((8252:Int),(8252:Int),(14:Int),()) :: z21; let z23:=((4448:Int),(4519:Int),(10:Int),()) :: ((4520:Int),(4607:Int),(11:Int),()) :: ((8203:Int),(8203:Int),(3:Int),()) :: ((8204:Int),(8204:Int),(4:Int),()) :: z22; let z24:=((2366:Int),(2368:Int),(8:Int),()) :: ((2377:Int),(2380:Int),(8:Int),()) :: ((2381:Int),(2381:Int),(4:Int),()) :: ((4352:Int),(4447:Int),(9:Int),()) :: z23; let z25:=((1757:Int),(1757:Int),(7:Int),()) :: ((2307:Int),(2307:Int),(8:Int),()) :: ((2363:Int),(2363:Int),(8:Int),()) :: ((2364:Int),(2364:Int),(4:Int),()) :: z24; let z26:=((768:Int),(879:Int),(4:Int),()) :: ((1536:Int),(1541:Int),(7:Int),()) :: ((1564:Int),(1564:Int),(3:Int),()) :: ((1611:Int),(1631:Int),(4:Int),()) :: z25; let z27:=((127:Int),(159:Int),(3:Int),()) :: ((169:Int),(169:Int),(14:Int),()) :: ((173:Int),(173:Int),(3:Int),()) :: ((174:Int),(174:Int),(14:Int),()) :: z26; let z28:=((10:Int),(10:Int),(2:Int),()) :: ((11:Int),(12:Int),(3:Int),()) :: ((13:Int),(13:Int),(1:Int),()) :: ((14:Int),(31:Int),(3:Int),()) :: z27; let z29:=((0:Int),(9:Int),(3:Int),()) :: z28; let y30:=Y6.val z29 x0; bif Y6.dom z29 x0 then (some y30.1.2.2) else none) else (bif (i64.wrap (x0 - (44032:Int))).tmod (28:Int) == (0:Int) then (some (((12:Int),()))) else (some (((13:Int),())))))
def Y0.val (x0:Int):=(Y0.raw fuel x0).getD (dfltA [I6])
def Y0.dom (x0:Int):=(Y0.raw fuel x0).isSome
def Y0.sg:Sig:=⟨[I6],[I6],false,fun x=>Y0.dom x.1,fun x=>Y0.val x.1⟩
theorem Y0.eq (m:Nat) (x0:Int):runS Y0.E Go.Proofs.Tryz.f185 Y0.sg (nL m) (x0,()) = Y0.raw m x0:=by kernel_rfl
theorem Y0.told(h:Base0) (hs:AllT Y0.ls):Told 185 Y0.sg :=
 told_n h fn185 hs (fun x=>Y0.eq fuel x.1)
end Pt
end
section
open Go Go.Am
namespace Pt
set_option maxRecDepth 100000
abbrev X5.ls:List (Nat × Sig):=[(184,N1.sg),(185,Y0.sg)]
def X5.E:Env:=mkE X5.ls
def X5.raw (m:Nat) (x0:(Ty.den X1)) (x1:Int):Option (Args [X1]):=let y1:=N1.val x0; bif N1.dom x0 then (bif !y1.1 then (let y2:=Y0.val x1; bif Y0.dom x1 then (bif y2.1 == (14:Int) then (some (((true,y2.1,true,false,()),()))) else (bif y2.1 == (4:Int) then (some (((true,y2.1,false,false,()),()))) else (bif y2.1 == (5:Int) then (some (((true,y2.1,false,false,()),()))) else (bif y2.1 == (6:Int) then (some (((true,y2.1,false,true,()),()))) else (some (((true,y2.1,false,false,()),()))))))) else none) else (let y3:=Y0.val x1; bif Y0.dom x1 then (bif y3.1 == (14:Int) then (some (((true,y3.1,true,false,()),()))) else (bif y3.1 == (4:Int) then (bif x0.2.2.1 then (some (((true,y3.1,x0.2.1 != (5:Int),false,()),()))) else (some (((true,y3.1,false,false,()),())))) else (bif y3.1 == (5:Int) then (bif x0.2.2.1 then (some (((true,y3.1,x0.2.1 != (5:Int),false,()),()))) else (some (((true,y3.1,false,false,()),())))) else (bif y3.1 == (6:Int) then (some (((true,y3.1,false,!x0.2.2.2.1,()),()))) else (some (((true,y3.1,false,false,()),()))))))) else none)) else none
def X5.val (x0:(Ty.den X1)) (x1:Int):=(X5.raw fuel x0 x1).getD (dfltA [X1])
def X5.dom (x0:(Ty.den X1)) (x1:Int):=(X5.raw fuel x0 x1).isSome
def X5.sg:Sig:=⟨[X1,I6],[X1],false,fun x=>X5.dom x.1 x.2.1,fun x=>X5.val x.1 x.2.1⟩
theorem X5.eq (m:Nat) (x0:(Ty.den X1)) (x1:Int):runS X5.E Go.Proofs.Tryz.f168 X5.sg (nL m) (x0,(x1,())) = X5.raw m x0 x1:=by kernel_rfl
theorem X5.told(h:Base0) (hs:AllT X5.ls):Told 168 X5.sg :=
 told_n h fn168 hs (fun x=>X5.eq fuel x.1 x.2.1)
def X4.E:Env:=mkE []
def X4.raw (m:Nat) (x0:Int):Option (Args [.bool]):=bif x0 == (1:Int) then (some ((true,()))) else (bif x0 == (2:Int) then (some ((true,()))) else (some ((x0 == (3:Int),()))))
def X4.val (x0:Int):=(X4.raw fuel x0).getD (dfltA [.bool])
def X4.dom (x0:Int):=(X4.raw fuel x0).isSome
def X4.sg:Sig:=⟨[I6],[.bool],false,fun x=>X4.dom x.1,fun x=>X4.val x.1⟩
theorem X4.eq (m:Nat) (x0:Int):runS X4.E Go.Proofs.Tryz.f215 X4.sg (nL m) (x0,()) = X4.raw m x0:=by kernel_rfl
theorem X4.told(h:Base0):Told 215 X4.sg :=
 told_n h fn215 (l:=[]) trivial (fun x=>X4.eq fuel x.1)
end Pt
end
end
