/- The tied card of the law holds. No condition. -/
import Derived.Test.YtmdfoigdflaliaaGreatDoorPtt2
set_option maxHeartbeats 40000000
set_option maxRecDepth 20000
set_option linter.unusedSimpArgs false
set_option linter.unusedVariables false
namespace Go.Proofs.YtmdfoigdflaliaaGreatDoor
open Go.Gh
open Nat (reduceEqDiff reduceLeDiff reduceAdd reduceLT)
open Int (reduceNe)
open Go.Shelf
def Tryz.itoaL_ren:Go.Shelf.Ren:=⟨fun|171=>60|243=>82|246=>101|283=>113|284=>114|285=>115|286=>116|129=>127|317=>126|318=>128|319=>129|320=>130|337=>137|338=>138|n=>n,fun|3=>3|9=>9|2=>2|4=>4|171=>161|0=>0|53=>162|37=>22|5=>5|173=>165|212=>173|51=>174|20=>20|213=>175|46=>141|232=>191|233=>192|n=>n,fun|17=>1|18=>4|19=>5|n=>n⟩
theorem Tryz.itoaL:Go.Proofs.LaysM.n171 Tryz.prog Tryz.itoaL_ren:={
 mixed:=by kernel_rfl
 f129:=Tryz.func127.trans (congrArg some (by kernel_rfl))
 f171:=Tryz.func60.trans (congrArg some (by kernel_rfl))
 f243:=Tryz.func82.trans (congrArg some (by kernel_rfl))
 f246:=Tryz.func101.trans (congrArg some (by kernel_rfl))
 f283:=Tryz.func113.trans (congrArg some (by kernel_rfl))
 f284:=Tryz.func114.trans (congrArg some (by kernel_rfl))
 f285:=Tryz.func115.trans (congrArg some (by kernel_rfl))
 f286:=Tryz.func116.trans (congrArg some (by kernel_rfl))
 f317:=Tryz.func126.trans (congrArg some (by kernel_rfl))
 f318:=Tryz.func128.trans (congrArg some (by kernel_rfl))
 f319:=Tryz.func129.trans (congrArg some (by kernel_rfl))
 f320:=Tryz.func130.trans (congrArg some (by kernel_rfl))
 f337:=Tryz.func137.trans (congrArg some (by kernel_rfl))
 f338:=Tryz.func138.trans (congrArg some (by kernel_rfl))
 t0:=Tryz.underlying0
 a0:=Tryz.isAgg0
 z0:=Tryz.sizeOf0
 v0:=Tryz.zeroValue0
 t2:=Tryz.underlying2
 a2:=Tryz.isAgg2
 z2:=Tryz.sizeOf2
 v2:=Tryz.zeroValue2
 t3:=Tryz.underlying3
 a3:=Tryz.isAgg3
 z3:=Tryz.sizeOf3
 v3:=Tryz.zeroValue3
 t4:=Tryz.underlying4
 a4:=Tryz.isAgg4
 z4:=Tryz.sizeOf4
 v4:=Tryz.zeroValue4
 t5:=Tryz.underlying5
 a5:=Tryz.isAgg5
 z5:=Tryz.sizeOf5
 v5:=Tryz.zeroValue5
 t9:=Tryz.underlying9
 a9:=Tryz.isAgg9
 z9:=Tryz.sizeOf9
 v9:=Tryz.zeroValue9
 t20:=Tryz.underlying20
 a20:=Tryz.isAgg20
 z20:=Tryz.sizeOf20
 v20:=Tryz.zeroValue20
 t37:=Tryz.underlying22
 a37:=Tryz.isAgg22
 z37:=Tryz.sizeOf22
 v37:=Tryz.zeroValue22
 t46:=Tryz.underlying141
 a46:=Tryz.isAgg141
 z46:=Tryz.sizeOf141
 v46:=Tryz.zeroValue141
 t51:=Tryz.underlying174
 a51:=Tryz.isAgg174
 z51:=Tryz.sizeOf174
 v51:=Tryz.zeroValue174
 t53:=Tryz.underlying162
 a53:=Tryz.isAgg162
 z53:=Tryz.sizeOf162
 v53:=Tryz.zeroValue162
 t171:=Tryz.underlying161
 a171:=Tryz.isAgg161
 z171:=Tryz.sizeOf161
 v171:=Tryz.zeroValue161
 t173:=Tryz.underlying165
 a173:=Tryz.isAgg165
 z173:=Tryz.sizeOf165
 v173:=Tryz.zeroValue165
 t212:=Tryz.underlying173
 a212:=Tryz.isAgg173
 z212:=Tryz.sizeOf173
 v212:=Tryz.zeroValue173
 t213:=Tryz.underlying175
 a213:=Tryz.isAgg175
 z213:=Tryz.sizeOf175
 t232:=Tryz.underlying191
 a232:=Tryz.isAgg191
 z232:=Tryz.sizeOf191
 v232:=Tryz.zeroValue191
 t233:=Tryz.underlying192
 a233:=Tryz.isAgg192
 z233:=Tryz.sizeOf192
 v233:=Tryz.zeroValue192
 g17:=by kernel_rfl
 g18:=by kernel_rfl
 g19:=by kernel_rfl
 i0:=by kernel_rfl
 i2:=by kernel_rfl
 i3:=by kernel_rfl
 i4:=by kernel_rfl
 i5:=by kernel_rfl
 i9:=by kernel_rfl
 i20:=by kernel_rfl
 i37:=by kernel_rfl
 i46:=by kernel_rfl
 i51:=by kernel_rfl
 i53:=by kernel_rfl
 i171:=by kernel_rfl
 i173:=by kernel_rfl
 i212:=by kernel_rfl
 i232:=by kernel_rfl
 i233:=by kernel_rfl
 m17:=by kernel_rfl
 m18:=by kernel_rfl
 m19:=by kernel_rfl }
def Tryz.atoiL_ren:Go.Shelf.Ren:=⟨fun|172=>88|244=>107|245=>108|247=>118|279=>119|280=>120|281=>121|282=>122|287=>132|316=>133|171=>60|205=>134|321=>139|322=>140|243=>82|246=>101|283=>113|284=>114|285=>115|286=>116|129=>127|317=>126|318=>128|319=>129|320=>130|337=>137|338=>138|n=>n,fun|9=>9|3=>3|75=>137|76=>138|4=>4|5=>5|167=>167|37=>22|0=>0|85=>168|2=>2|168=>170|53=>162|175=>177|46=>141|210=>181|127=>185|145=>188|143=>186|21=>21|171=>161|173=>165|212=>173|51=>174|20=>20|213=>175|232=>191|233=>192|80=>74|n=>n,fun|15=>2|16=>3|17=>1|18=>4|19=>5|n=>n⟩
theorem Tryz.atoiL:Go.Proofs.LaysC.n172 Tryz.prog Tryz.atoiL_ren:={
 mixed:=by kernel_rfl
 f129:=Tryz.func127.trans (congrArg some (by kernel_rfl))
 f171:=Tryz.func60.trans (congrArg some (by kernel_rfl))
 f172:=Tryz.func88.trans (congrArg some (by kernel_rfl))
 f205:=Tryz.func134.trans (congrArg some (by kernel_rfl))
 f243:=Tryz.func82.trans (congrArg some (by kernel_rfl))
 f244:=Tryz.func107.trans (congrArg some (by kernel_rfl))
 f245:=Tryz.func108.trans (congrArg some (by kernel_rfl))
 f246:=Tryz.func101.trans (congrArg some (by kernel_rfl))
 f247:=Tryz.func118.trans (congrArg some (by kernel_rfl))
 f279:=Tryz.func119.trans (congrArg some (by kernel_rfl))
 f280:=Tryz.func120.trans (congrArg some (by kernel_rfl))
 f281:=Tryz.func121.trans (congrArg some (by kernel_rfl))
 f282:=Tryz.func122.trans (congrArg some (by kernel_rfl))
 f283:=Tryz.func113.trans (congrArg some (by kernel_rfl))
 f284:=Tryz.func114.trans (congrArg some (by kernel_rfl))
 f285:=Tryz.func115.trans (congrArg some (by kernel_rfl))
 f286:=Tryz.func116.trans (congrArg some (by kernel_rfl))
 f287:=Tryz.func132.trans (congrArg some (by kernel_rfl))
 f316:=Tryz.func133.trans (congrArg some (by kernel_rfl))
 f317:=Tryz.func126.trans (congrArg some (by kernel_rfl))
 f318:=Tryz.func128.trans (congrArg some (by kernel_rfl))
 f319:=Tryz.func129.trans (congrArg some (by kernel_rfl))
 f320:=Tryz.func130.trans (congrArg some (by kernel_rfl))
 f321:=Tryz.func139.trans (congrArg some (by kernel_rfl))
 f322:=Tryz.func140.trans (congrArg some (by kernel_rfl))
 f337:=Tryz.func137.trans (congrArg some (by kernel_rfl))
 f338:=Tryz.func138.trans (congrArg some (by kernel_rfl))
 t0:=Tryz.underlying0
 a0:=Tryz.isAgg0
 z0:=Tryz.sizeOf0
 v0:=Tryz.zeroValue0
 t2:=Tryz.underlying2
 a2:=Tryz.isAgg2
 z2:=Tryz.sizeOf2
 v2:=Tryz.zeroValue2
 t3:=Tryz.underlying3
 a3:=Tryz.isAgg3
 z3:=Tryz.sizeOf3
 v3:=Tryz.zeroValue3
 t4:=Tryz.underlying4
 a4:=Tryz.isAgg4
 z4:=Tryz.sizeOf4
 v4:=Tryz.zeroValue4
 t5:=Tryz.underlying5
 a5:=Tryz.isAgg5
 z5:=Tryz.sizeOf5
 v5:=Tryz.zeroValue5
 t9:=Tryz.underlying9
 a9:=Tryz.isAgg9
 z9:=Tryz.sizeOf9
 v9:=Tryz.zeroValue9
 t20:=Tryz.underlying20
 a20:=Tryz.isAgg20
 z20:=Tryz.sizeOf20
 v20:=Tryz.zeroValue20
 t21:=Tryz.underlying21
 a21:=Tryz.isAgg21
 z21:=Tryz.sizeOf21
 v21:=Tryz.zeroValue21
 t37:=Tryz.underlying22
 a37:=Tryz.isAgg22
 z37:=Tryz.sizeOf22
 v37:=Tryz.zeroValue22
 t46:=Tryz.underlying141
 a46:=Tryz.isAgg141
 z46:=Tryz.sizeOf141
 v46:=Tryz.zeroValue141
 t51:=Tryz.underlying174
 a51:=Tryz.isAgg174
 z51:=Tryz.sizeOf174
 v51:=Tryz.zeroValue174
 t53:=Tryz.underlying162
 a53:=Tryz.isAgg162
 z53:=Tryz.sizeOf162
 v53:=Tryz.zeroValue162
 t75:=Tryz.underlying137
 a75:=Tryz.isAgg137
 z75:=Tryz.sizeOf137
 v75:=Tryz.zeroValue137
 t76:=Tryz.underlying138
 a76:=Tryz.isAgg138
 z76:=Tryz.sizeOf138
 v76:=Tryz.zeroValue138
 t85:=Tryz.underlying168
 a85:=Tryz.isAgg168
 z85:=Tryz.sizeOf168
 v85:=Tryz.zeroValue168
 t127:=Tryz.underlying185
 a127:=Tryz.isAgg185
 z127:=Tryz.sizeOf185
 v127:=Tryz.zeroValue185
 t143:=Tryz.underlying186
 a143:=Tryz.isAgg186
 z143:=Tryz.sizeOf186
 v143:=Tryz.zeroValue186
 t145:=Tryz.underlying188
 a145:=Tryz.isAgg188
 z145:=Tryz.sizeOf188
 v145:=Tryz.zeroValue188
 t167:=Tryz.underlying167
 a167:=Tryz.isAgg167
 z167:=Tryz.sizeOf167
 v167:=Tryz.zeroValue167
 t168:=Tryz.underlying170
 a168:=Tryz.isAgg170
 z168:=Tryz.sizeOf170
 v168:=Tryz.zeroValue170
 t171:=Tryz.underlying161
 a171:=Tryz.isAgg161
 z171:=Tryz.sizeOf161
 v171:=Tryz.zeroValue161
 t173:=Tryz.underlying165
 a173:=Tryz.isAgg165
 z173:=Tryz.sizeOf165
 v173:=Tryz.zeroValue165
 t175:=Tryz.underlying177
 a175:=Tryz.isAgg177
 z175:=Tryz.sizeOf177
 v175:=Tryz.zeroValue177
 t210:=Tryz.underlying181
 a210:=Tryz.isAgg181
 z210:=Tryz.sizeOf181
 v210:=Tryz.zeroValue181
 t212:=Tryz.underlying173
 a212:=Tryz.isAgg173
 z212:=Tryz.sizeOf173
 v212:=Tryz.zeroValue173
 t213:=Tryz.underlying175
 a213:=Tryz.isAgg175
 z213:=Tryz.sizeOf175
 t232:=Tryz.underlying191
 a232:=Tryz.isAgg191
 z232:=Tryz.sizeOf191
 v232:=Tryz.zeroValue191
 t233:=Tryz.underlying192
 a233:=Tryz.isAgg192
 z233:=Tryz.sizeOf192
 v233:=Tryz.zeroValue192
 g15:=by kernel_rfl
 g16:=by kernel_rfl
 g17:=by kernel_rfl
 g18:=by kernel_rfl
 g19:=by kernel_rfl
 t80:=Tryz.underlying74
 a80:=Tryz.isAgg74
 z80:=Tryz.sizeOf74
 v80:=Tryz.zeroValue74
 i0:=by kernel_rfl
 i2:=by kernel_rfl
 i3:=by kernel_rfl
 i4:=by kernel_rfl
 i5:=by kernel_rfl
 i9:=by kernel_rfl
 i20:=by kernel_rfl
 i21:=by kernel_rfl
 i37:=by kernel_rfl
 i46:=by kernel_rfl
 i51:=by kernel_rfl
 i53:=by kernel_rfl
 i75:=by kernel_rfl
 i76:=by kernel_rfl
 i80:=by kernel_rfl
 i85:=by kernel_rfl
 i127:=by kernel_rfl
 i143:=by kernel_rfl
 i145:=by kernel_rfl
 i167:=by kernel_rfl
 i168:=by kernel_rfl
 i171:=by kernel_rfl
 i173:=by kernel_rfl
 i175:=by kernel_rfl
 i210:=by kernel_rfl
 i212:=by kernel_rfl
 i232:=by kernel_rfl
 i233:=by kernel_rfl
 m15:=by kernel_rfl
 m16:=by kernel_rfl
 m17:=by kernel_rfl
 m18:=by kernel_rfl
 m19:=by kernel_rfl
 c0:=by kernel_rfl
 c2:=by kernel_rfl
 c3:=by kernel_rfl
 c4:=by kernel_rfl
 c5:=by kernel_rfl
 c9:=by kernel_rfl
 c20:=by kernel_rfl
 c21:=by kernel_rfl
 c37:=by kernel_rfl
 c46:=by kernel_rfl
 c51:=by kernel_rfl
 c53:=by kernel_rfl
 c75:=by kernel_rfl
 c76:=by kernel_rfl
 c80:=by kernel_rfl
 c85:=by kernel_rfl
 c127:=by kernel_rfl
 c143:=by kernel_rfl
 c145:=by kernel_rfl
 c167:=by kernel_rfl
 c168:=by kernel_rfl
 c171:=by kernel_rfl
 c173:=by kernel_rfl
 c175:=by kernel_rfl
 c210:=by kernel_rfl
 c212:=by kernel_rfl
 c213:=by kernel_rfl
 c232:=by kernel_rfl
 c233:=by kernel_rfl }
def Tryz.ctpL_ren:Go.Shelf.Ren:=⟨fun|103=>61|210=>83|206=>102|n=>n,fun|9=>9|4=>4|24=>97|3=>3|n=>n,fun|n=>n⟩
theorem Tryz.ctpL:Go.Proofs.Lays.n103 Tryz.prog Tryz.ctpL_ren:={
 mixed:=by kernel_rfl
 f103:=Tryz.func61.trans (congrArg some (by kernel_rfl))
 f206:=Tryz.func102.trans (congrArg some (by kernel_rfl))
 f210:=Tryz.func83.trans (congrArg some (by kernel_rfl))
 t3:=Tryz.underlying3
 a3:=Tryz.isAgg3
 z3:=Tryz.sizeOf3
 v3:=Tryz.zeroValue3
 t4:=Tryz.underlying4
 a4:=Tryz.isAgg4
 z4:=Tryz.sizeOf4
 v4:=Tryz.zeroValue4
 t9:=Tryz.underlying9
 a9:=Tryz.isAgg9
 z9:=Tryz.sizeOf9
 v9:=Tryz.zeroValue9
 t24:=Tryz.underlying97
 a24:=Tryz.isAgg97
 z24:=Tryz.sizeOf97
 v24:=Tryz.zeroValue97 }
def Tryz.ixaL_ren:Go.Shelf.Ren:=⟨fun|153=>62|152=>84|226=>85|227=>86|228=>87|137=>103|119=>104|224=>105|225=>106|217=>117|266=>131|n=>n,fun|9=>9|3=>3|4=>4|5=>5|21=>21|117=>134|116=>133|0=>0|46=>141|124=>157|n=>n,fun|n=>n⟩
theorem Tryz.ixaL:Go.Proofs.Lays.n153 Tryz.prog Tryz.ixaL_ren:={
 mixed:=by kernel_rfl
 f119:=Tryz.func104.trans (congrArg some (by kernel_rfl))
 f137:=Tryz.func103.trans (congrArg some (by kernel_rfl))
 f152:=Tryz.func84.trans (congrArg some (by kernel_rfl))
 f153:=Tryz.func62.trans (congrArg some (by kernel_rfl))
 f217:=Tryz.func117.trans (congrArg some (by kernel_rfl))
 f224:=Tryz.func105.trans (congrArg some (by kernel_rfl))
 f225:=Tryz.func106.trans (congrArg some (by kernel_rfl))
 f226:=Tryz.func85.trans (congrArg some (by kernel_rfl))
 f227:=Tryz.func86.trans (congrArg some (by kernel_rfl))
 f228:=Tryz.func87.trans (congrArg some (by kernel_rfl))
 f266:=Tryz.func131.trans (congrArg some (by kernel_rfl))
 t0:=Tryz.underlying0
 a0:=Tryz.isAgg0
 z0:=Tryz.sizeOf0
 v0:=Tryz.zeroValue0
 t3:=Tryz.underlying3
 a3:=Tryz.isAgg3
 z3:=Tryz.sizeOf3
 v3:=Tryz.zeroValue3
 t4:=Tryz.underlying4
 a4:=Tryz.isAgg4
 z4:=Tryz.sizeOf4
 v4:=Tryz.zeroValue4
 t5:=Tryz.underlying5
 a5:=Tryz.isAgg5
 z5:=Tryz.sizeOf5
 v5:=Tryz.zeroValue5
 t9:=Tryz.underlying9
 a9:=Tryz.isAgg9
 z9:=Tryz.sizeOf9
 v9:=Tryz.zeroValue9
 t21:=Tryz.underlying21
 a21:=Tryz.isAgg21
 z21:=Tryz.sizeOf21
 v21:=Tryz.zeroValue21
 t46:=Tryz.underlying141
 a46:=Tryz.isAgg141
 z46:=Tryz.sizeOf141
 v46:=Tryz.zeroValue141
 t116:=Tryz.underlying133
 a116:=Tryz.isAgg133
 z116:=Tryz.sizeOf133
 t117:=Tryz.underlying134
 a117:=Tryz.isAgg134
 z117:=Tryz.sizeOf134
 v117:=Tryz.zeroValue134
 t124:=Tryz.underlying157
 a124:=Tryz.isAgg157
 z124:=Tryz.sizeOf157
 v124:=Tryz.zeroValue157 }
end Go.Proofs.YtmdfoigdflaliaaGreatDoor
namespace Go.Proofs.YtmdfoigdflaliaaGreatDoor
open Go.Gh
open Nat (reduceEqDiff reduceLeDiff reduceAdd reduceLT)
open Int (reduceNe)
open Go.Shelf Go.RowKit Go.Lib Go.Sort
abbrev Tryz.tb:GH:=tabF 1 2 3 0
theorem Tryz.tbH:tabH Tryz.tb:=tabH_F (by decide)
theorem Tryz.tb10:∀x∈tab10 1,x∈Tryz.tb:=tabF_10 _ _ _ _
theorem ax88 (s:ByteArray) (hs:(Z6 s).length ≤ 1048576):PureT Tryz.prog Tryz.tb 88 [T s] (atoX (Z6 s)):=by
 have eg:∀args w,(callFunc 88 args).run Tryz.prog w = .ok (.enter 88 args) w:=enters_of Tryz.func88 (by kernel_rfl) rfl
 have hsz:s.size≤1048576:=by rw[Zo];exact hs
 refine lib_ok (fun w D vs hm hn hml=> ?_) (tabF_ok _ _ _ _) eg
 obtain rfl:=ml1 hml
 cases hA:atoiAll (Z6 s) with
 | ok v=>
  refine (Any.strconv_Atoi_ok Tryz.atoiL s (by omega) _ hA w).mono ?_
  rintro e w' ⟨rfl,hw⟩
  refine ⟨_,.tup [I v,.val .nilIface],rfl,.inl ⟨v,hA,rfl⟩,fun D'=>MV.tup2 _ _,?_⟩
  rcases hw with rfl|⟨t,rfl⟩
  ·exact Below.refl _ _
  ·exact Lib.bytesWorld_below _ _ _
 | range=>
  obtain ⟨te,pe,hc⟩:=HM.isE (m:=3) hm hn (by simp[tabF])
  refine (Any.strconv_Atoi_range Tryz.atoiL s (by omega) hA _ w hc (.inr ⟨te,pe,rfl⟩)).mono ?_
  rintro e w' ⟨M,rfl,_,_,hb⟩
  exact ⟨_,.tup [I _,.val (.iface _ _)],rfl,.inr ⟨fun v h=>(by rw[hA] at h;cases h),_,_,_,rfl⟩,fun D'=>MV.tup2 _ _,hb⟩
 | _ =>
  obtain ⟨te,pe,hc⟩:=HM.isE (m:=2) hm hn (by simp[tabF])
  refine (Any.strconv_Atoi_syntax Tryz.atoiL s (by omega) hA _ w hc (.inr ⟨te,pe,rfl⟩)).mono ?_
  rintro e w' ⟨M,rfl,_,_,hb⟩
  exact ⟨_,.tup [I _,.val (.iface _ _)],rfl,.inr ⟨fun v h=>(by rw[hA] at h;cases h),_,_,_,rfl⟩,fun D'=>MV.tup2 _ _,hb⟩
theorem Tryz.gp10:Tryz.prog.globalNamed "internal/strconv.uint64pow10" = some 1:=by kernel_rfl
theorem p60 (n:Int) (h0 : -9223372036854775808≤n) (h1:n≤9223372036854775807):PureT Tryz.prog (tab10 1) 60 [I n] (· = .val (mkS (itoa n))):=by
 have eg:∀args w,(callFunc 60 args).run Tryz.prog w = .ok (.enter 60 args) w:=enters_of Tryz.func60 (by kernel_rfl) rfl
 refine itoa_ok (args:=fun n=> #[.int .i64 n]) (n:=n) Tryz.gp10 ?_ (fun w ht=>Any.strconv_Itoa Tryz.itoaL n h0 h1 w ht) eg
 intro w D vs h
 simp only[ML,MV] at h
 obtain ⟨v,vs',F1,F2,rfl,_,⟨rfl,_⟩,rfl,_⟩:=h
 rfl
theorem p37 (n:Int) (h0 : -9223372036854775808≤n) (h1:n≤9223372036854775807):PureT Tryz.prog (tab10 1) 37 [I n] (· = .val (mkS (itoa n))):=by
 refine ZN mxd i37 rfl (by simp) ?_;refine X0 ?_
 (refine V0 ?_;with_reducible repeat' first|exact trivial|intro h|refine aO ?_|refine eO ?_|apply jO)
 refine callS.eqT (p60 n h0 h1) (tabH_10 1) (fun _ h=>h) ?_
 (refine V0 ?_;with_reducible repeat' first|exact trivial|intro h|refine aO ?_|refine eO ?_|apply jO)
theorem w45 (n:Int) (h0 : -9223372036854775808≤n) (h1:n≤9223372036854775807):Pu 45 [I n] (· = .val (mkS (itoa n))):=by
 refine Pure.bor ?_
 by_cases hn:n=0
 ·subst hn
  rw[itoa_0]
  refine ZN mxd i45 rfl (by simp) ?_;refine X0 ?_
  (refine V0 ?_;with_reducible repeat' first|exact trivial|intro h|refine aO ?_|refine eO ?_|apply jO)
  exact .refl
 have hn':=eq_false hn
 rw[itoa_dgs hn]
 have hlen:=dgs_len (u:=n.natAbs) (by omega)
 refine ZN mxd i45 rfl (by simp) ?_;refine X0 ?_
 (refine V1 (jO hn' @decide_false) ?_;with_reducible repeat' first|exact trivial|intro h|refine aO ?_|refine eO ?_|apply jO)
 refine ploop mxd (ι:={ x:Int×List UInt8 // x.1.natAbs≤n.natAbs∧dgs x.1.natAbs++x.2=dgs n.natAbs }) (fun x=>[(0,I x.1.1),(3,B (decide (n<0))),(4,.val (mkS x.1.2))]) (fun _ => []) (fun x=>x.1.1.natAbs) ⟨(n,[]),by simp⟩ (by simp[E2]) (by simp[subH]) ?_
 rintro ⟨⟨m,out⟩,hm,ho⟩ -
 dsimp only at hm ho ⊢
 by_cases hm0:m=0
 ·have hm0':=eq_true hm0
  subst hm0
  have ho':out=dgs n.natAbs:=by rw[←ho];simp[dgs]
  subst ho'
  by_cases hneg:n<0
  ·have hneg':=eq_true hneg
   (refine V1 (jO hneg' @decide_true) ?_;with_reducible repeat' first|exact trivial|intro h|refine aO ?_|refine eO ?_|apply jO)
   all_goals try exact oF
   all_goals first|exact .refl | (simp;omega)
  ·have hneg':=eq_false hneg
   (refine V1 (jO hneg' @decide_false) ?_;with_reducible repeat' first|exact trivial|intro h|refine aO ?_|refine eO ?_|apply jO)
   all_goals try exact oF
   exact .refl
 ·have hm0':=eq_false hm0
  have hs:=dgs_step (u:=m.natAbs) (by omega) out
  have hol:out.length≤19:=by have:=congrArg List.length ho;simp at this;omega
  have h3:=tmod10 m
  have h4:=tdiv10 m
  by_cases hd:m.tmod 10<0
  ·have hd':=eq_true hd
   have e1:0-m.tmod 10=((m.natAbs % 10:Nat):Int):=by rw[if_pos hd] at h3;exact h3
   have e2:=digB _ (mod_lt10 m.natAbs)
   (refine V1 (jO hm0' (jO hd' (jO @decide_false @decide_true))) ?_;with_reducible repeat' first|exact trivial|intro h|refine aO ?_|refine eO ?_|apply jO)
   all_goals try exact oF
   ·simp;omega
   ·rw[e1,e2]
    refine px ⟨(m.tdiv 10,UInt8.ofNat (48+m.natAbs % 10)::out),by dsimp only;omega,by dsimp only;rw[h4,←hs,ho]⟩ (by dsimp only;omega) (by simp[E2]<;>rfl) (by simp[subH])
  ·have hd':=eq_false hd
   have e1:m.tmod 10=((m.natAbs % 10:Nat):Int):=by rw[if_neg hd] at h3;exact h3
   have e2:=digB _ (mod_lt10 m.natAbs)
   (refine V1 (jO hm0' (jO hd' (jO @decide_false @decide_true))) ?_;with_reducible repeat' first|exact trivial|intro h|refine aO ?_|refine eO ?_|apply jO)
   all_goals try exact oF
   ·simp;omega
   ·rw[e1,e2]
    refine px ⟨(m.tdiv 10,UInt8.ofNat (48+m.natAbs % 10)::out),by dsimp only;omega,by dsimp only;rw[h4,←hs,ho]⟩ (by dsimp only;omega) (by simp[E2]<;>rfl) (by simp[subH])
end Go.Proofs.YtmdfoigdflaliaaGreatDoor
namespace Go.Proofs.YtmdfoigdflaliaaGreatDoor
open Go.Gh
open Nat (reduceEqDiff reduceLeDiff reduceAdd reduceLT)
open Int (reduceNe)
open Go.Lib
end Go.Proofs.YtmdfoigdflaliaaGreatDoor
namespace Go.Proofs.YtmdfoigdflaliaaGreatDoor
open Go.Gh
open Nat (reduceEqDiff reduceLeDiff reduceAdd reduceLT)
open Int (reduceNe)
open Go.Shelf Go.RowKit Go.Lib Go.Sort
end Go.Proofs.YtmdfoigdflaliaaGreatDoor
namespace Go.Proofs.YtmdfoigdflaliaaGreatDoor
open Go.Gh
open Nat (reduceEqDiff reduceLeDiff reduceAdd reduceLT)
open Int (reduceNe)
open Go.Shelf Go.RowKit Go.Lib Go.Sort
end Go.Proofs.YtmdfoigdflaliaaGreatDoor
namespace Go.Proofs.YtmdfoigdflaliaaGreatDoor
open Go.Gh
open Nat (reduceEqDiff reduceLeDiff reduceAdd reduceLT)
open Int (reduceNe)
open Go.Lib
theorem px66 (s:ByteArray) (lo hi:Int) (h0 : -1000000000000≤lo) (h1:hi≤1000000000000) (hs:(Z6 s).length ≤ 1048576):PureT Tryz.prog Tryz.tb 66 [T s,I lo,I hi] (· = .tup [I (rdN lo hi (Z6 s)).1,B (rdN lo hi (Z6 s)).2]):=by
 refine ZN mxd i66 rfl (by simp) ?_;simp (maxSteps:=9^7) only[↓ S2,S2,ZT,↓reduceIte,reduceNe,reduceEqDiff,reduceCtorEq,reduceLeDiff,reduceAdd,reduceLT]
 ((try refine qI ?_);(repeat ((first|with_reducible refine qU ?_ | simp only[Z5]);try simp (maxSteps:=9^7) +contextual only[↓ S2,S2,↓reduceIte,reduceNe,reduceEqDiff,reduceCtorEq,reduceLeDiff,reduceAdd,reduceLT,VQ,]));(try simp +contextual (disch:=omega) only[Z2,]);(with_reducible repeat' (first|intro h|refine And.intro (by omega) ?_ | refine exP (by omega) ?_ | apply And.intro)))
 refine callS.of ((ax88 s hs).frame Tryz.tbH (fun _ h=>h)) ?_
 rintro g H' ⟨hR,rfl⟩ hn
 rcases hR with ⟨v,hv,rfl⟩|⟨hv,n,t,p,rfl⟩
 ·have e:=rdN_ok (lo:=lo) (hi:=hi) h0 h1 hv
  have hw:=w17 v lo hi
  have hbd:=atoiAll_bounds hv
  by_cases h6:lo≤v∧v≤hi
  ·rw[decide_eq_true h6] at hw
   have hq:=p37 v (by omega) (by omega)
   by_cases he:itoa v=Z6 s
   ·rw[if_pos ⟨h6,he⟩] at e
    rw[e]
    rw[he] at hq
    ((try refine qI ?_);(repeat ((first|with_reducible refine qU ?_ | simp only[Z5]);try simp (maxSteps:=9^7) +contextual only[↓ S2,S2,↓reduceIte,reduceNe,reduceEqDiff,reduceCtorEq,reduceLeDiff,reduceAdd,reduceLT,VQ,]));(try simp +contextual (disch:=omega) only[Z2,]);(with_reducible repeat' (first|intro h|refine And.intro (by omega) ?_ | refine exP (by omega) ?_ | apply And.intro)))
    refine callS.eq hw ?_
    ((try refine qI ?_);(repeat ((first|with_reducible refine qU ?_ | simp only[Z5]);try simp (maxSteps:=9^7) +contextual only[↓ S2,S2,↓reduceIte,reduceNe,reduceEqDiff,reduceCtorEq,reduceLeDiff,reduceAdd,reduceLT,VQ,]));(try simp +contextual (disch:=omega) only[Z2,]);(with_reducible repeat' (first|intro h|refine And.intro (by omega) ?_ | refine exP (by omega) ?_ | apply And.intro)))
    refine callS.eqT hq (tabH_10 _) Tryz.tb10 ?_
    ((try refine qI ?_);(repeat ((first|with_reducible refine qU ?_ | simp only[Z5]);try simp (maxSteps:=9^7) +contextual only[↓ S2,S2,↓reduceIte,reduceNe,reduceEqDiff,reduceCtorEq,reduceLeDiff,reduceAdd,reduceLT,VQ,]));(try simp +contextual (disch:=omega) only[Z2,]);(with_reducible repeat' (first|intro h|refine And.intro (by omega) ?_ | refine exP (by omega) ?_ | apply And.intro)))
   ·rw[if_neg fun h=>he h.2] at e
    have hne:¬(⟨(itoa v).toArray⟩:ByteArray)=s:=fun h=>he (congrArg Z6 h)
    rw[e]
    ((try refine qI ?_);(repeat ((first|with_reducible refine qU ?_ | simp only[Z5]);try simp (maxSteps:=9^7) +contextual only[↓ S2,S2,↓reduceIte,reduceNe,reduceEqDiff,reduceCtorEq,reduceLeDiff,reduceAdd,reduceLT,VQ,]));(try simp +contextual (disch:=omega) only[Z2,]);(with_reducible repeat' (first|intro h|refine And.intro (by omega) ?_ | refine exP (by omega) ?_ | apply And.intro)))
    refine callS.eq hw ?_
    ((try refine qI ?_);(repeat ((first|with_reducible refine qU ?_ | simp only[Z5]);try simp (maxSteps:=9^7) +contextual only[↓ S2,S2,↓reduceIte,reduceNe,reduceEqDiff,reduceCtorEq,reduceLeDiff,reduceAdd,reduceLT,VQ,]));(try simp +contextual (disch:=omega) only[Z2,]);(with_reducible repeat' (first|intro h|refine And.intro (by omega) ?_ | refine exP (by omega) ?_ | apply And.intro)))
    refine callS.eqT hq (tabH_10 _) Tryz.tb10 ?_
    ((try refine qI ?_);(repeat ((first|with_reducible refine qU ?_ | simp only[Z5]);try simp (maxSteps:=9^7) +contextual only[↓ S2,S2,↓reduceIte,reduceNe,reduceEqDiff,reduceCtorEq,reduceLeDiff,reduceAdd,reduceLT,VQ,hne]));(try simp +contextual (disch:=omega) only[Z2,hne]);(with_reducible repeat' (first|intro h|refine And.intro (by omega) ?_ | refine exP (by omega) ?_ | apply And.intro)))
  ·rw[decide_eq_false h6] at hw
   rw[if_neg fun h=>h6 h.1] at e
   rw[e]
   ((try refine qI ?_);(repeat ((first|with_reducible refine qU ?_ | simp only[Z5]);try simp (maxSteps:=9^7) +contextual only[↓ S2,S2,↓reduceIte,reduceNe,reduceEqDiff,reduceCtorEq,reduceLeDiff,reduceAdd,reduceLT,VQ,]));(try simp +contextual (disch:=omega) only[Z2,]);(with_reducible repeat' (first|intro h|refine And.intro (by omega) ?_ | refine exP (by omega) ?_ | apply And.intro)))
   refine callS.eq hw ?_
   ((try refine qI ?_);(repeat ((first|with_reducible refine qU ?_ | simp only[Z5]);try simp (maxSteps:=9^7) +contextual only[↓ S2,S2,↓reduceIte,reduceNe,reduceEqDiff,reduceCtorEq,reduceLeDiff,reduceAdd,reduceLT,VQ,]));(try simp +contextual (disch:=omega) only[Z2,]);(with_reducible repeat' (first|intro h|refine And.intro (by omega) ?_ | refine exP (by omega) ?_ | apply And.intro)))
 ·rw[rdN_bad h0 h1 hv]
  ((try refine qI ?_);(repeat ((first|with_reducible refine qU ?_ | simp only[Z5]);try simp (maxSteps:=9^7) +contextual only[↓ S2,S2,↓reduceIte,reduceNe,reduceEqDiff,reduceCtorEq,reduceLeDiff,reduceAdd,reduceLT,VQ,]));(try simp +contextual (disch:=omega) only[Z2,]);(with_reducible repeat' (first|intro h|refine And.intro (by omega) ?_ | refine exP (by omega) ?_ | apply And.intro)))
end Go.Proofs.YtmdfoigdflaliaaGreatDoor
