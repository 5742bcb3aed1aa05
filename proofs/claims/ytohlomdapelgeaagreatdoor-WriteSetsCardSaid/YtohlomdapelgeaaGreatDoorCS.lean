/- The shelf's contracts. -/
import Derived.Shelf.Strings.Builder1
import Derived.Shelf.Strings.Builder2
import Derived.Shelf.Strings.OnBuilder
import Derived.Shelf.Strings.Trim
import Derived.Shelf.Small.Utf8
import Derived.Shelf.Small.Strs
import Derived.Shelf.Small.Wraps
import Derived.Shelf.Strings.BuilderF
import Derived.Shelf.Strings.BuilderK
import Derived.Shelf.Utf8.RuneCount
import Derived.Shelf.Strings.Builder2Cap
import Derived.Shelf.Strconv.Itoa0
import Derived.Shelf.Strconv.Itoa1
import Derived.Shelf.LaysM
import Derived.Shelf.Strconv.Itoa2
import Derived.Shelf.Strconv.Itoa3
import Derived.Shelf.Strconv.Itoa4
import Derived.Shelf.Strconv.ParseIntEmpty
import Derived.Shelf.Strconv.Clone
import Derived.Shelf.Strconv.SyntaxError
import Derived.Shelf.LaysC
import Derived.Shelf.Strconv.ToError
import Derived.Shelf.Strconv.Lower
import Derived.Shelf.Strconv.ParseUint10
import Derived.Shelf.Strconv.ParseUint10Empty
import Derived.Shelf.Strconv.ParseUint10Any
import Derived.Shelf.Strconv.ParseInt10
import Derived.Shelf.Strconv.RangeError
import Derived.Shelf.Strconv.ToErrorRange
import Derived.Shelf.Strconv.ParseUintEmpty
import Derived.Shelf.Strconv.ParseUint10b64
import Derived.Shelf.Strconv.ParseUint10b32
import Derived.Shelf.Strconv.ParseUint10b16
import Derived.Shelf.Strconv.ParseUint10b8
import Derived.Shelf.Strconv.ParseUint10At
import Derived.Shelf.Strconv.ParseInt10At64
import Derived.Shelf.Strconv.ParseInt10At32
import Derived.Shelf.Strconv.ParseInt10At16
import Derived.Shelf.Strconv.ParseInt10At8
import Derived.Shelf.Strconv.ParseInt10All
import Derived.Shelf.Strconv.ParseIntPublic10
import Derived.Shelf.Strconv.ErrVarParseInt
import Derived.Shelf.Strings.Search1
import Derived.Shelf.Strings.Search2
import Derived.Shelf.Strings.Search3
import Derived.Shelf.Strings.Count
import Derived.Shelf.Strings.Shaped
import Derived.Shelf.Strings.Prefix
import Derived.Shelf.Strings.Split
import Derived.Shelf.Strings.Replace
import Derived.Shelf.Strings.SplitShaped
import Derived.Shelf.Strings.Runes
import Derived.Shelf.Strings.RuneCount
import Derived.Shelf.Strings.IndexAny
import Derived.Shelf.Strings.AsciiSet
import Derived.Shelf.Strings.IndexAnyAll
import Derived.Shelf.Unicode.DecodeSlow
import Derived.Shelf.Strings.BuilderCap
import Derived.Shelf.Slices.Turned
import Derived.Ground.SlgfProg
import Derived.Shelf.SlicesE.IndexFunc
import Derived.Shelf.Strings.SlTrimAscii
import Derived.Test.YtohlomdapelgeaaGreatDoorProg
namespace Go.Proofs
open Tryz
theorem eh{P:Prop}(h:P:=by kernel_rfl):P:=h
theorem ei{α:Type}{a b:α}(h:a=b:=by kernel_rfl):some a=some b:=congrArg some h
open Go.Shelf
def Tryz.lays169_ren:Go.Shelf.Ren:=⟨fun |169=>125|n=>n,fun |70=>180|9=>9|0=>0|72=>183|37=>181|127=>222|3=>3|5=>5|n=>n,fun |n=>n⟩
theorem Tryz.lays169:Go.Proofs.Lays.n169 prog Tryz.lays169_ren:=⟨eh,func125.trans ei,underlying0,isAgg0,sizeOf0,zeroValue0,underlying3,isAgg3,sizeOf3,zeroValue3,underlying9,isAgg9,sizeOf9,zeroValue9,underlying181,isAgg181,sizeOf181,zeroValue181,underlying180,isAgg180,sizeOf180,zeroValue180,underlying183,isAgg183,sizeOf183,zeroValue183,underlying222,isAgg222,sizeOf222,zeroValue222⟩
theorem Tryz.Builder_Extra_169:Builder.Extra prog Tryz.lays169_ren:={
  sizeBuilder:=eh
  liesBuilder:=eh
  t5:=underlying5
  a5:=isAgg5
  z5:=sizeOf5
  v5:=zeroValue5
  infoByte:=eh
  cellsByte:=eh
  sizeByte:=eh
  neB5:=by decide}
open Go.RowKit in
theorem Tryz.Builder_String_any(B b:Nat)(l:List UInt8)(w:World)(h:Lib.IsBuilder 183 5 B b (Lib.byteCells l) w)(hBw:B<=w.heap.size):
    Calls prog 125 #[.pointer (some ⟨b,0,none⟩)] w fun e w'=>e= .returned (.string ⟨l.toArray⟩)/\Below B w w':=Any.Builder_String_any Tryz.lays169 Tryz.Builder_Extra_169 B b l w h hBw
def Tryz.lays156_ren:Go.Shelf.Ren:=⟨fun |156=>78|165=>123|166=>124|169=>125|240=>181|241=>182|276=>229|277=>230|n=>n,fun |31=>27|9=>9|3=>3|4=>4|0=>0|20=>20|72=>183|76=>187|70=>180|37=>181|75=>186|127=>222|164=>263|5=>5|80=>167|n=>n,fun |n=>n⟩
theorem Tryz.lays156:Go.Proofs.Lays.n156 prog Tryz.lays156_ren:=⟨eh,func78.trans ei,func123.trans ei,func124.trans ei,func125.trans ei,func181.trans ei,func182.trans ei,func229.trans ei,func230.trans ei,underlying0,isAgg0,sizeOf0,zeroValue0,underlying3,isAgg3,sizeOf3,zeroValue3,underlying4,isAgg4,sizeOf4,zeroValue4,underlying9,isAgg9,sizeOf9,zeroValue9,underlying20,isAgg20,sizeOf20,zeroValue20,underlying27,isAgg27,sizeOf27,zeroValue27,underlying181,isAgg181,sizeOf181,zeroValue181,underlying180,isAgg180,sizeOf180,zeroValue180,underlying183,isAgg183,sizeOf183,zeroValue183,underlying186,isAgg186,sizeOf186,zeroValue186,underlying187,isAgg187,sizeOf187,zeroValue187,underlying222,isAgg222,sizeOf222,zeroValue222,underlying263,isAgg263,sizeOf263,zeroValue263⟩
theorem Tryz.Builder_Extra_156:Builder.Extra prog Tryz.lays156_ren:={
  sizeBuilder:=eh
  liesBuilder:=eh
  t5:=underlying5
  a5:=isAgg5
  z5:=sizeOf5
  v5:=zeroValue5
  infoByte:=eh
  cellsByte:=eh
  sizeByte:=eh
  neB5:=by decide}
open Go.RowKit in
theorem Tryz.strings_Join(bk o c:Nat)(xs:List ByteArray)(sep:ByteArray)(w:World)(hcells:∀(j:Nat) x,xs[j]?=some x->w.cell? ⟨bk,o+j,none⟩=some (.string x))(hbk:bk<w.heap.size)(hN:xs.length<=140737488355328)(hcap:xs.length<=c)(hlen:(Lib.join (xs.map (·.data.toList)) sep.data.toList).length<=140737488355328):
    Calls prog 78 #[.slice (some ⟨bk,o,none⟩) xs.length c,.string sep] w fun e w'=>e= .returned (.string ⟨(Lib.join (xs.map (·.data.toList)) sep.data.toList).toArray⟩)/\Below w.heap.size w w':=Any.strings_Join Tryz.lays156 Tryz.Builder_Extra_156 bk o c xs sep w hcells hbk hN hcap hlen
def Tryz.lays160_ren:Go.Shelf.Ren:=⟨fun |160=>329|232=>349|231=>348|227=>313|234=>351|233=>350|236=>353|235=>352|228=>314|271=>368|151=>367|197=>361|120=>376|152=>311|260=>374|137=>330|119=>340|224=>282|225=>281|217=>280|266=>315|n=>n,fun |9=>9|4=>4|3=>3|5=>5|117=>334|116=>333|0=>0|124=>348|21=>21|105=>367|46=>299|119=>377|139=>380|138=>379|n=>n,fun |3=>6|4=>7|n=>n⟩
theorem Tryz.lays160:Go.Proofs.Lays.n160 prog Tryz.lays160_ren:=⟨eh,func340.trans ei,func376.trans ei,func330.trans ei,func367.trans ei,func311.trans ei,func329.trans ei,func361.trans ei,func280.trans ei,func282.trans ei,func281.trans ei,func313.trans ei,func314.trans ei,func348.trans ei,func349.trans ei,func350.trans ei,func351.trans ei,func352.trans ei,func353.trans ei,func374.trans ei,func315.trans ei,func368.trans ei,underlying0,isAgg0,sizeOf0,zeroValue0,underlying3,isAgg3,sizeOf3,zeroValue3,underlying4,isAgg4,sizeOf4,zeroValue4,underlying5,isAgg5,sizeOf5,zeroValue5,underlying9,isAgg9,sizeOf9,zeroValue9,underlying21,isAgg21,sizeOf21,zeroValue21,underlying299,isAgg299,sizeOf299,zeroValue299,underlying367,isAgg367,sizeOf367,zeroValue367,underlying333,isAgg333,sizeOf333,underlying334,isAgg334,sizeOf334,zeroValue334,underlying377,isAgg377,sizeOf377,underlying348,isAgg348,sizeOf348,zeroValue348,underlying379,isAgg379,sizeOf379,zeroValue379,underlying380,isAgg380,sizeOf380,zeroValue380,eh,eh⟩
def Tryz.lays137_ren:Go.Shelf.Ren:=⟨fun |137=>330|217=>280|266=>315|n=>n,fun |9=>9|5=>5|3=>3|n=>n,fun |n=>n⟩
theorem Tryz.lays137:Go.Proofs.Lays.n137 prog Tryz.lays137_ren:=⟨eh,func330.trans ei,func280.trans ei,func315.trans ei,underlying3,isAgg3,sizeOf3,zeroValue3,underlying5,isAgg5,sizeOf5,zeroValue5,underlying9,isAgg9,sizeOf9,zeroValue9⟩
open Go.RowKit in
theorem Tryz.strings_IndexByte(s:ByteArray)(c:Int)(w:World):
    Calls prog 330 #[.string s,.int .u8 c] w fun e w'=>e= .returned (.int .i64 (Lib.indexByte s.data.toList c.toNat.toUInt8))/\w'=w:=Any.strings_IndexByte Tryz.lays137 s c w
def Tryz.lays103_ren:Go.Shelf.Ren:=⟨fun |103=>287|210=>328|206=>228|n=>n,fun |9=>9|4=>4|24=>239|3=>3|n=>n,fun |n=>n⟩
theorem Tryz.lays103:Go.Proofs.Lays.n103 prog Tryz.lays103_ren:=⟨eh,func287.trans ei,func228.trans ei,func328.trans ei,underlying3,isAgg3,sizeOf3,zeroValue3,underlying4,isAgg4,sizeOf4,zeroValue4,underlying9,isAgg9,sizeOf9,zeroValue9,underlying239,isAgg239,sizeOf239,zeroValue239⟩
open Go.RowKit in
theorem Tryz.strings_CutPrefix(s p:ByteArray)(w:World):
    Calls prog 287 #[.string s,.string p] w fun e w'=>e= .returned (.tuple #[.string ⟨(Lib.trimPrefix s.data.toList p.data.toList).toArray⟩,.bool (Lib.hasPrefix s.data.toList p.data.toList)])/\w'=w:=Any.strings_CutPrefix Tryz.lays103 s p w
def Tryz.lays104_ren:Go.Shelf.Ren:=⟨fun |104=>354|211=>369|207=>377|n=>n,fun |9=>9|4=>4|24=>239|3=>3|n=>n,fun |n=>n⟩
theorem Tryz.lays104:Go.Proofs.Lays.n104 prog Tryz.lays104_ren:=⟨eh,func354.trans ei,func377.trans ei,func369.trans ei,underlying3,isAgg3,sizeOf3,zeroValue3,underlying4,isAgg4,sizeOf4,zeroValue4,underlying9,isAgg9,sizeOf9,zeroValue9,underlying239,isAgg239,sizeOf239,zeroValue239⟩
open Go.RowKit in
theorem Tryz.strings_CutSuffix(s p:ByteArray)(w:World)(hs:s.size<=9223372036854775807):
    Calls prog 354 #[.string s,.string p] w fun e w'=>e= .returned (.tuple #[.string ⟨(Lib.trimSuffix s.data.toList p.data.toList).toArray⟩,.bool (Lib.hasSuffix s.data.toList p.data.toList)])/\w'=w:=Any.strings_CutSuffix Tryz.lays104 s p w hs
def Tryz.lays121_ren:Go.Shelf.Ren:=⟨fun |121=>319|214=>341|n=>n,fun |4=>4|9=>9|n=>n,fun |n=>n⟩
theorem Tryz.lays121:Go.Proofs.Lays.n121 prog Tryz.lays121_ren:=⟨eh,func319.trans ei,func341.trans ei,underlying4,isAgg4,sizeOf4,zeroValue4,underlying9,isAgg9,sizeOf9,zeroValue9⟩
open Go.RowKit in
theorem Tryz.strconv_FormatBool(b:Bool)(w:World):
    Calls prog 319 #[.bool b] w fun e w'=>e= .returned (.string ⟨(Lib.formatBool b).toArray⟩)/\w'=w:=Any.strconv_FormatBool Tryz.lays121 b w
open Go.RowKit in
def Tryz.laysM173_ren:Go.Shelf.Ren:=⟨fun |173=>174|246=>225|283=>267|284=>268|285=>269|286=>270|129=>306|317=>305|318=>307|319=>308|320=>309|337=>338|338=>339|n=>n,fun |2=>2|3=>3|9=>9|4=>4|171=>289|0=>0|53=>290|37=>181|5=>5|173=>293|212=>327|51=>328|20=>20|213=>329|46=>299|232=>365|233=>366|n=>n,fun |17=>1|18=>2|19=>3|n=>n⟩
theorem Tryz.laysM173:Go.Proofs.LaysM.n173 prog Tryz.laysM173_ren:={
  mixed:=eh
  f129:=func306.trans ei
  f173:=func174.trans ei
  f246:=func225.trans ei
  f283:=func267.trans ei
  f284:=func268.trans ei
  f285:=func269.trans ei
  f286:=func270.trans ei
  f317:=func305.trans ei
  f318:=func307.trans ei
  f319:=func308.trans ei
  f320:=func309.trans ei
  f337:=func338.trans ei
  f338:=func339.trans ei
  t0:=underlying0
  a0:=isAgg0
  z0:=sizeOf0
  v0:=zeroValue0
  t2:=underlying2
  a2:=isAgg2
  z2:=sizeOf2
  v2:=zeroValue2
  t3:=underlying3
  a3:=isAgg3
  z3:=sizeOf3
  v3:=zeroValue3
  t4:=underlying4
  a4:=isAgg4
  z4:=sizeOf4
  v4:=zeroValue4
  t5:=underlying5
  a5:=isAgg5
  z5:=sizeOf5
  v5:=zeroValue5
  t9:=underlying9
  a9:=isAgg9
  z9:=sizeOf9
  v9:=zeroValue9
  t20:=underlying20
  a20:=isAgg20
  z20:=sizeOf20
  v20:=zeroValue20
  t37:=underlying181
  a37:=isAgg181
  z37:=sizeOf181
  v37:=zeroValue181
  t46:=underlying299
  a46:=isAgg299
  z46:=sizeOf299
  v46:=zeroValue299
  t51:=underlying328
  a51:=isAgg328
  z51:=sizeOf328
  v51:=zeroValue328
  t53:=underlying290
  a53:=isAgg290
  z53:=sizeOf290
  v53:=zeroValue290
  t171:=underlying289
  a171:=isAgg289
  z171:=sizeOf289
  v171:=zeroValue289
  t173:=underlying293
  a173:=isAgg293
  z173:=sizeOf293
  v173:=zeroValue293
  t212:=underlying327
  a212:=isAgg327
  z212:=sizeOf327
  v212:=zeroValue327
  t213:=underlying329
  a213:=isAgg329
  z213:=sizeOf329
  t232:=underlying365
  a232:=isAgg365
  z232:=sizeOf365
  v232:=zeroValue365
  t233:=underlying366
  a233:=isAgg366
  z233:=sizeOf366
  v233:=zeroValue366
  g17:=eh
  g18:=eh
  g19:=eh
  i0:=eh
  i2:=eh
  i3:=eh
  i4:=eh
  i5:=eh
  i9:=eh
  i20:=eh
  i37:=eh
  i46:=eh
  i51:=eh
  i53:=eh
  i171:=eh
  i173:=eh
  i212:=eh
  i232:=eh
  i233:=eh
  m17:=eh
  m18:=eh
  m19:=eh}
open Go.RowKit Go.Sort Go.Lib in
theorem Tryz.strconv_FormatInt_10(n:Int)(h0: -9223372036854775808<=n)(h1:n<=9223372036854775807)(w:World)(htab:Lib.TabIs prog w "internal/strconv.uint64pow10" .u64 Lib.pow10Tab):
    Calls prog 174 #[.int .i64 n,.int .i64 10] w fun e w'=>e= .returned (.string ⟨(Lib.itoa n).toArray⟩)/\∃k os,w'=grow (w.drewN k) os:=Any.strconv_FormatInt_10 Tryz.laysM173 n h0 h1 w htab
def Tryz.laysC174_ren:Go.Shelf.Ren:=⟨fun |174=>286|247=>326|245=>327|287=>343|279=>344|280=>345|281=>346|282=>347|321=>362|322=>363|316=>364|171=>366|205=>365|243=>375|246=>225|283=>267|284=>268|285=>269|286=>270|129=>306|317=>305|318=>307|319=>308|320=>309|337=>338|338=>339|n=>n,fun |9=>9|3=>3|2=>2|75=>186|85=>305|4=>4|167=>350|5=>5|53=>290|175=>351|46=>299|168=>353|37=>181|0=>0|210=>371|21=>21|127=>222|145=>376|143=>374|171=>289|173=>293|212=>327|51=>328|20=>20|213=>329|232=>365|233=>366|80=>167|n=>n,fun |15=>4|16=>5|17=>1|18=>2|19=>3|n=>n⟩
theorem Tryz.laysC174:Go.Proofs.LaysC.n174 prog Tryz.laysC174_ren:={
  mixed:=eh
  f129:=func306.trans ei
  f171:=func366.trans ei
  f174:=func286.trans ei
  f205:=func365.trans ei
  f243:=func375.trans ei
  f245:=func327.trans ei
  f246:=func225.trans ei
  f247:=func326.trans ei
  f279:=func344.trans ei
  f280:=func345.trans ei
  f281:=func346.trans ei
  f282:=func347.trans ei
  f283:=func267.trans ei
  f284:=func268.trans ei
  f285:=func269.trans ei
  f286:=func270.trans ei
  f287:=func343.trans ei
  f316:=func364.trans ei
  f317:=func305.trans ei
  f318:=func307.trans ei
  f319:=func308.trans ei
  f320:=func309.trans ei
  f321:=func362.trans ei
  f322:=func363.trans ei
  f337:=func338.trans ei
  f338:=func339.trans ei
  t0:=underlying0
  a0:=isAgg0
  z0:=sizeOf0
  v0:=zeroValue0
  t2:=underlying2
  a2:=isAgg2
  z2:=sizeOf2
  v2:=zeroValue2
  t3:=underlying3
  a3:=isAgg3
  z3:=sizeOf3
  v3:=zeroValue3
  t4:=underlying4
  a4:=isAgg4
  z4:=sizeOf4
  v4:=zeroValue4
  t5:=underlying5
  a5:=isAgg5
  z5:=sizeOf5
  v5:=zeroValue5
  t9:=underlying9
  a9:=isAgg9
  z9:=sizeOf9
  v9:=zeroValue9
  t20:=underlying20
  a20:=isAgg20
  z20:=sizeOf20
  v20:=zeroValue20
  t21:=underlying21
  a21:=isAgg21
  z21:=sizeOf21
  v21:=zeroValue21
  t37:=underlying181
  a37:=isAgg181
  z37:=sizeOf181
  v37:=zeroValue181
  t46:=underlying299
  a46:=isAgg299
  z46:=sizeOf299
  v46:=zeroValue299
  t51:=underlying328
  a51:=isAgg328
  z51:=sizeOf328
  v51:=zeroValue328
  t53:=underlying290
  a53:=isAgg290
  z53:=sizeOf290
  v53:=zeroValue290
  t75:=underlying186
  a75:=isAgg186
  z75:=sizeOf186
  v75:=zeroValue186
  t85:=underlying305
  a85:=isAgg305
  z85:=sizeOf305
  v85:=zeroValue305
  t127:=underlying222
  a127:=isAgg222
  z127:=sizeOf222
  v127:=zeroValue222
  t143:=underlying374
  a143:=isAgg374
  z143:=sizeOf374
  v143:=zeroValue374
  t145:=underlying376
  a145:=isAgg376
  z145:=sizeOf376
  v145:=zeroValue376
  t167:=underlying350
  a167:=isAgg350
  z167:=sizeOf350
  v167:=zeroValue350
  t168:=underlying353
  a168:=isAgg353
  z168:=sizeOf353
  v168:=zeroValue353
  t171:=underlying289
  a171:=isAgg289
  z171:=sizeOf289
  v171:=zeroValue289
  t173:=underlying293
  a173:=isAgg293
  z173:=sizeOf293
  v173:=zeroValue293
  t175:=underlying351
  a175:=isAgg351
  z175:=sizeOf351
  v175:=zeroValue351
  t210:=underlying371
  a210:=isAgg371
  z210:=sizeOf371
  v210:=zeroValue371
  t212:=underlying327
  a212:=isAgg327
  z212:=sizeOf327
  v212:=zeroValue327
  t213:=underlying329
  a213:=isAgg329
  z213:=sizeOf329
  t232:=underlying365
  a232:=isAgg365
  z232:=sizeOf365
  v232:=zeroValue365
  t233:=underlying366
  a233:=isAgg366
  z233:=sizeOf366
  v233:=zeroValue366
  g15:=eh
  g16:=eh
  g17:=eh
  g18:=eh
  g19:=eh
  t80:=underlying167
  a80:=isAgg167
  z80:=sizeOf167
  v80:=zeroValue167
  i0:=eh
  i2:=eh
  i3:=eh
  i4:=eh
  i5:=eh
  i9:=eh
  i20:=eh
  i21:=eh
  i37:=eh
  i46:=eh
  i51:=eh
  i53:=eh
  i75:=eh
  i80:=eh
  i85:=eh
  i127:=eh
  i143:=eh
  i145:=eh
  i167:=eh
  i168:=eh
  i171:=eh
  i173:=eh
  i175:=eh
  i210:=eh
  i212:=eh
  i232:=eh
  i233:=eh
  m15:=eh
  m16:=eh
  m17:=eh
  m18:=eh
  m19:=eh
  c0:=eh
  c2:=eh
  c3:=eh
  c4:=eh
  c5:=eh
  c9:=eh
  c20:=eh
  c21:=eh
  c37:=eh
  c46:=eh
  c51:=eh
  c53:=eh
  c75:=eh
  c80:=eh
  c85:=eh
  c127:=eh
  c143:=eh
  c145:=eh
  c167:=eh
  c168:=eh
  c171:=eh
  c173:=eh
  c175:=eh
  c210:=eh
  c212:=eh
  c213:=eh
  c232:=eh
  c233:=eh}
open Go.RowKit in
theorem Tryz.strconv_ParseInt_10_at64_ok(s:ByteArray)(hmax:s.size<=9223372036854775806)(v:Int)(h:Lib.parseIntB 64 s.data.toList= .ok v)(w:World):
    Calls prog 286 #[.string s,.int .i64 10,.int .i64 64] w fun e w'=>e= .returned (.tuple #[.int .i64 v,.nilIface])/\(w'=w\/∃t,w'=Lib.bytesWorld w 5 t):=Any.strconv_ParseInt_10_at64_ok Tryz.laysC174 s hmax v h w
open Go.RowKit in
theorem Tryz.strconv_ParseInt_10_at64_range_var(s:ByteArray)(hlim:s.size<=281474976710656)(h:Lib.parseIntB 64 s.data.toList= .range)(tp:TypeId)(p:Value)(w:World)(hvar:w.var? prog "strconv.ErrRange" =some #[.iface tp p]):
    Calls prog 286 #[.string s,.int .i64 10,.int .i64 64] w fun e w'=>∃N,e= .returned (.tuple #[.int .i64 (Lib.intSat 64 s.data.toList),.iface 353 (.pointer (some ⟨N,0,none⟩))])/\w.heap.size<=N/\w'.heap[N]?=some (.cells #[.string ⟨#[80,97,114,115,101,73,110,116]⟩,.string s,.iface tp p] 371 (0,0))/\Below w.heap.size w w':=Any.strconv_ParseInt_10_at64_range_var Tryz.laysC174 s hlim h tp p w hvar
def Tryz.lays143_ren:Go.Shelf.Ren:=⟨fun |143=>185|219=>232|217=>280|225=>281|224=>282|267=>283|266=>315|314=>316|n=>n,fun |9=>9|3=>3|4=>4|5=>5|46=>299|146=>337|51=>328|n=>n,fun |1=>0|n=>n⟩
theorem Tryz.lays143:Go.Proofs.Lays.n143 prog Tryz.lays143_ren:=⟨eh,func185.trans ei,func280.trans ei,func232.trans ei,func282.trans ei,func281.trans ei,func315.trans ei,func283.trans ei,func316.trans ei,underlying3,isAgg3,sizeOf3,zeroValue3,underlying4,isAgg4,sizeOf4,zeroValue4,underlying5,isAgg5,sizeOf5,zeroValue5,underlying9,isAgg9,sizeOf9,zeroValue9,underlying299,isAgg299,sizeOf299,zeroValue299,underlying328,isAgg328,sizeOf328,zeroValue328,underlying337,isAgg337,sizeOf337,zeroValue337,eh⟩
open Go.RowKit Go.Lib in
theorem Tryz.strings_Index_one(s:ByteArray)(c:UInt8)(w:World):
    Calls prog 185 #[.string s,.string ⟨#[c]⟩] w fun e w'=>e= .returned (.int .i64 (Lib.indexByte s.data.toList c))/\w'=w:=Any.strings_Index_one Tryz.lays143 s c w
def Tryz.lays99_ren:Go.Shelf.Ren:=⟨fun |99=>184|206=>228|n=>n,fun |9=>9|4=>4|3=>3|n=>n,fun |n=>n⟩
theorem Tryz.lays99:Go.Proofs.Lays.n99 prog Tryz.lays99_ren:=⟨eh,func184.trans ei,func228.trans ei,underlying3,isAgg3,sizeOf3,zeroValue3,underlying4,isAgg4,sizeOf4,zeroValue4,underlying9,isAgg9,sizeOf9,zeroValue9⟩
open Go.RowKit Go.Lib in
theorem Tryz.strings_HasPrefix(s p:ByteArray)(w:World):
    Calls prog 184 #[.string s,.string p] w fun e w'=>e= .returned (.bool (Lib.hasPrefix s.data.toList p.data.toList))/\w'=w:=Any.strings_HasPrefix Tryz.lays99 s p w
def Tryz.lays101_ren:Go.Shelf.Ren:=⟨fun |101=>119|208=>180|206=>228|n=>n,fun |9=>9|4=>4|3=>3|n=>n,fun |n=>n⟩
theorem Tryz.lays101:Go.Proofs.Lays.n101 prog Tryz.lays101_ren:=⟨eh,func119.trans ei,func228.trans ei,func180.trans ei,underlying3,isAgg3,sizeOf3,zeroValue3,underlying4,isAgg4,sizeOf4,zeroValue4,underlying9,isAgg9,sizeOf9,zeroValue9⟩
open Go.RowKit Go.Lib in
theorem Tryz.strings_TrimPrefix(s p:ByteArray)(w:World):
    Calls prog 119 #[.string s,.string p] w fun e w'=>e= .returned (.string ⟨(Lib.trimPrefix s.data.toList p.data.toList).toArray⟩)/\w'=w:=Any.strings_TrimPrefix Tryz.lays101 s p w
def Tryz.lays155_ren:Go.Shelf.Ren:=⟨fun |155=>323|154=>342|138=>360|165=>123|143=>185|166=>124|197=>361|169=>125|195=>372|218=>373|240=>181|241=>182|219=>232|260=>374|276=>229|277=>230|217=>280|225=>281|224=>282|267=>283|266=>315|314=>316|n=>n,fun |9=>9|3=>3|4=>4|72=>183|0=>0|76=>187|105=>367|21=>21|5=>5|70=>180|20=>20|37=>181|75=>186|127=>222|164=>263|46=>299|119=>377|139=>380|138=>379|146=>337|51=>328|80=>167|n=>n,fun |1=>0|3=>6|4=>7|n=>n⟩
theorem Tryz.lays155:Go.Proofs.Lays.n155 prog Tryz.lays155_ren:=⟨eh,func360.trans ei,func185.trans ei,func342.trans ei,func323.trans ei,func123.trans ei,func124.trans ei,func125.trans ei,func372.trans ei,func361.trans ei,func280.trans ei,func373.trans ei,func232.trans ei,func282.trans ei,func281.trans ei,func181.trans ei,func182.trans ei,func374.trans ei,func315.trans ei,func283.trans ei,func229.trans ei,func230.trans ei,func316.trans ei,underlying0,isAgg0,sizeOf0,zeroValue0,underlying3,isAgg3,sizeOf3,zeroValue3,underlying4,isAgg4,sizeOf4,zeroValue4,underlying5,isAgg5,sizeOf5,zeroValue5,underlying9,isAgg9,sizeOf9,zeroValue9,underlying20,isAgg20,sizeOf20,zeroValue20,underlying21,isAgg21,sizeOf21,zeroValue21,underlying181,isAgg181,sizeOf181,zeroValue181,underlying299,isAgg299,sizeOf299,zeroValue299,underlying328,isAgg328,sizeOf328,zeroValue328,underlying180,isAgg180,sizeOf180,zeroValue180,underlying183,isAgg183,sizeOf183,zeroValue183,underlying186,isAgg186,sizeOf186,zeroValue186,underlying187,isAgg187,sizeOf187,zeroValue187,underlying367,isAgg367,sizeOf367,zeroValue367,underlying377,isAgg377,sizeOf377,underlying222,isAgg222,sizeOf222,zeroValue222,underlying379,isAgg379,sizeOf379,zeroValue379,underlying380,isAgg380,sizeOf380,zeroValue380,underlying337,isAgg337,sizeOf337,zeroValue337,underlying263,isAgg263,sizeOf263,zeroValue263,eh,eh,eh⟩
theorem Tryz.Builder_Extra_155:Builder.Extra prog Tryz.lays155_ren:={
  sizeBuilder:=eh
  liesBuilder:=eh
  t5:=underlying5
  a5:=isAgg5
  z5:=sizeOf5
  v5:=zeroValue5
  infoByte:=eh
  cellsByte:=eh
  sizeByte:=eh
  neB5:=by decide}
open Go.RowKit Go.Lib in
theorem Tryz.strings_ReplaceAll(s old new:ByteArray)(m:Int)(w:World)(hs:s.size<4294967281)(hm:w.cell? ⟨0,0,none⟩=some (.int .i64 m))(h1:1<=old.size)(hlen:s.size+Lib.countB s old * new.size<=140737488355328):
    Calls prog 323 #[.string s,.string old,.string new] w fun e w'=>
      e= .returned (.string ⟨(Lib.replaceAll s.data.toList old.data.toList new.data.toList).toArray⟩)/\Below w.heap.size w w':=Any.strings_ReplaceAll Tryz.lays155 Tryz.Builder_Extra_155 s old new m w hs hm h1 hlen
open Go.RowKit Go.Lib in
def Tryz.lays153_ren:Go.Shelf.Ren:=⟨fun |153=>279|152=>311|226=>312|227=>313|228=>314|137=>330|119=>340|224=>282|225=>281|217=>280|266=>315|n=>n,fun |9=>9|3=>3|4=>4|5=>5|21=>21|117=>334|116=>333|0=>0|46=>299|124=>348|n=>n,fun |n=>n⟩
theorem Tryz.lays153:Go.Proofs.Lays.n153 prog Tryz.lays153_ren:=⟨eh,func340.trans ei,func330.trans ei,func311.trans ei,func279.trans ei,func280.trans ei,func282.trans ei,func281.trans ei,func312.trans ei,func313.trans ei,func314.trans ei,func315.trans ei,underlying0,isAgg0,sizeOf0,zeroValue0,underlying3,isAgg3,sizeOf3,zeroValue3,underlying4,isAgg4,sizeOf4,zeroValue4,underlying5,isAgg5,sizeOf5,zeroValue5,underlying9,isAgg9,sizeOf9,zeroValue9,underlying21,isAgg21,sizeOf21,zeroValue21,underlying299,isAgg299,sizeOf299,zeroValue299,underlying333,isAgg333,sizeOf333,underlying334,isAgg334,sizeOf334,zeroValue334,underlying348,isAgg348,sizeOf348,zeroValue348⟩
open Go.RowKit Go.Lib in
theorem Tryz.strings_IndexAny_short(s chars:ByteArray)(w:World)(h2:2<=chars.size)(h8:s.size<=8)(hascii:∀(j:Nat) b,s.data.toList[j]?=some b->b.toNat<128):
    Calls prog 279 #[.string s,.string chars] w fun e w'=>e= .returned (.int .i64 (Lib.indexAny s.data.toList chars.data.toList))/\∃pos,w'=w.iter s pos:=Any.strings_IndexAny_short Tryz.lays153 s chars w h2 h8 hascii
def Tryz.lays110_ren:Go.Shelf.Ren:=⟨fun |110=>262|109=>304|n=>n,fun |31=>27|9=>9|4=>4|3=>3|0=>0|n=>n,fun |n=>n⟩
theorem Tryz.lays110:Go.Proofs.Lays.n110 prog Tryz.lays110_ren:=⟨eh,func304.trans ei,func262.trans ei,underlying0,isAgg0,sizeOf0,zeroValue0,underlying3,isAgg3,sizeOf3,zeroValue3,underlying4,isAgg4,sizeOf4,zeroValue4,underlying9,isAgg9,sizeOf9,zeroValue9,underlying27,isAgg27,sizeOf27,zeroValue27⟩
open Go.Lib in
theorem Tryz.slices_Contains_string(b off n c:Nat)(zs:List ByteArray)(x:ByteArray)(w:World)(hz:n<=zs.length)(hbig:n<=9223372036854775807)(hc:∀j,j<zs.length->w.cell? ⟨b,off+j,none⟩=some (.string (zs.getD j ByteArray.empty))):
    Calls prog 262 #[.slice (some ⟨b,off,none⟩) n c,.string x] w fun e w'=>e= .returned (.bool (Lib.containsS (zs.take n) x))/\w'=w:=Any.slices_Contains_string Tryz.lays110 b off n c zs x w hz hbig hc
def Tryz.laysSlH6_f126_ren:Go.Shelf.Ren:=⟨fun |6=>126|n=>n,fun |22=>27|23=>9|25=>144|3=>3|0=>0|4=>4|n=>n,fun |n=>n⟩
theorem Tryz.laysSlH6_f126:Go.Proofs.SlLaysH.n6 prog Tryz.laysSlH6_f126_ren:=⟨eh,⟨Tryz.f126.name,by decide,func126.trans ei⟩,underlying0,isAgg0,sizeOf0,zeroValue0,underlying3,isAgg3,sizeOf3,zeroValue3,underlying4,isAgg4,sizeOf4,zeroValue4,underlying27,isAgg27,sizeOf27,zeroValue27,isAgg9,sizeOf9,underlying144,isAgg144,sizeOf144,zeroValue144⟩
open Go.RowKit Go.Lib in
theorem Tryz.slices_IndexFunc{α:Type}[Inhabited α](enc:α->Value)(p:α->Bool)(g:Nat)(lb:Array Value)(eg:∀args w,(callFunc g args).run prog w= .ok (.enter g args) w)(b off n c:Nat)(zs:List α)(w:World)(hp:PredAt prog g lb enc p w)(hz:n<=zs.length)(hbig:n<=9223372036854775807)(hc:∀j,j<zs.length->w.cell? ⟨b,off+j,none⟩=some (enc zs[j]!)):
    Calls prog 126 #[.slice (some ⟨b,off,none⟩) n c,.func (.func g) #[] lb] w fun e w'=>e= .returned (.int .i64 (Lib.idxBy (fun _ y=>p y) (zs.take n) default))/\∃q,w'=w.drewN q:=AnyE.slices_IndexFunc Tryz.laysSlH6_f126 enc p g lb eg b off n c zs w hp hz hbig hc
open Go.RowKit in
theorem Tryz.strings_Trim_laid(s cutset:ByteArray)(w:World)(hs:s.size<=9223372036854775807)(hcs:cutset.size<4294967281)(hascii:∀(j:Nat) (b:UInt8),cutset.data.toList[j]?=some b->b.toNat<128):
    Calls prog 329 #[.string s,.string cutset] w fun e w'=>e= .returned (.string ⟨(Lib.trimS s.data.toList cutset.data.toList).toArray⟩)/\Below w.heap.size w w':=Any.strings_Trim_laid Tryz.lays160 (eh) s cutset w hs hcs hascii
def Tryz.lays167_ren:Go.Shelf.Ren:=⟨fun |167=>325|240=>181|276=>229|n=>n,fun |0=>0|4=>4|5=>5|9=>9|20=>20|37=>181|70=>180|72=>183|75=>186|80=>167|164=>263|n=>n,fun |n=>n⟩
theorem Tryz.lays167:Go.Proofs.Lays.n167 prog Tryz.lays167_ren:=⟨eh,func325.trans ei,func181.trans ei,func229.trans ei,underlying0,isAgg0,sizeOf0,zeroValue0,underlying4,isAgg4,sizeOf4,zeroValue4,underlying5,isAgg5,sizeOf5,zeroValue5,underlying9,isAgg9,sizeOf9,zeroValue9,underlying20,isAgg20,sizeOf20,zeroValue20,underlying181,isAgg181,sizeOf181,zeroValue181,underlying180,isAgg180,sizeOf180,zeroValue180,underlying183,isAgg183,sizeOf183,zeroValue183,underlying186,isAgg186,sizeOf186,zeroValue186,underlying263,isAgg263,sizeOf263,zeroValue263⟩
theorem Tryz.Builder_Extra_167:Builder.Extra prog Tryz.lays167_ren:={
  sizeBuilder:=eh
  liesBuilder:=eh
  t5:=underlying5
  a5:=isAgg5
  z5:=sizeOf5
  v5:=zeroValue5
  infoByte:=eh
  cellsByte:=eh
  sizeByte:=eh
  neB5:=by decide}
end Go.Proofs
