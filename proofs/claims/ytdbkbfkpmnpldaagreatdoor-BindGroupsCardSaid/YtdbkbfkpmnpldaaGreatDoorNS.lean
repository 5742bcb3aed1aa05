/- The shelf's contracts. -/
import Derived.Shelf.Strings.Builder1
import Derived.Shelf.Strings.Builder2
import Derived.Shelf.Strings.OnBuilder
import Derived.Shelf.Strings.Trim
import Derived.Shelf.Small.Utf8
import Derived.Shelf.Small.Strs
import Derived.Shelf.Small.Wraps
import Derived.Shelf.Strings.BuilderF
import Derived.Shelf.Strings.BuilderK
import Derived.Shelf.Utf8.RuneCount
import Derived.Shelf.Strings.Builder2Cap
import Derived.Shelf.Strconv.Itoa0
import Derived.Shelf.Strconv.Itoa1
import Derived.Shelf.LaysM
import Derived.Shelf.Strconv.Itoa2
import Derived.Shelf.Strconv.Itoa3
import Derived.Shelf.Strconv.Itoa4
import Derived.Shelf.Strconv.ParseIntEmpty
import Derived.Shelf.Strconv.Clone
import Derived.Shelf.Strconv.SyntaxError
import Derived.Shelf.LaysC
import Derived.Shelf.Strconv.ToError
import Derived.Shelf.Strconv.Lower
import Derived.Shelf.Strconv.ParseUint10
import Derived.Shelf.Strconv.ParseUint10Empty
import Derived.Shelf.Strconv.ParseUint10Any
import Derived.Shelf.Strconv.ParseInt10
import Derived.Shelf.Strconv.RangeError
import Derived.Shelf.Strconv.ToErrorRange
import Derived.Shelf.Strconv.ParseUintEmpty
import Derived.Shelf.Strconv.ParseUint10b64
import Derived.Shelf.Strconv.ParseUint10b32
import Derived.Shelf.Strconv.ParseUint10b16
import Derived.Shelf.Strconv.ParseUint10b8
import Derived.Shelf.Strconv.ParseUint10At
import Derived.Shelf.Strconv.ParseInt10At64
import Derived.Shelf.Strconv.ParseInt10At32
import Derived.Shelf.Strconv.ParseInt10At16
import Derived.Shelf.Strconv.ParseInt10At8
import Derived.Shelf.Strconv.ParseInt10All
import Derived.Shelf.Strconv.ParseIntPublic10
import Derived.Shelf.Strconv.ErrVarParseInt
import Derived.Shelf.Strings.Search1
import Derived.Shelf.Strings.Search2
import Derived.Shelf.Strings.Search3
import Derived.Shelf.Strings.Count
import Derived.Shelf.Strings.Shaped
import Derived.Shelf.Strings.Prefix
import Derived.Shelf.Strings.Split
import Derived.Shelf.Strings.Replace
import Derived.Shelf.Strings.SplitShaped
import Derived.Shelf.Strings.Runes
import Derived.Shelf.Strings.RuneCount
import Derived.Shelf.Strings.IndexAny
import Derived.Shelf.Strings.AsciiSet
import Derived.Shelf.Strings.IndexAnyAll
import Derived.Shelf.Bits.Mul64
import Derived.Shelf.Unicode.DecodeSlow
import Derived.Shelf.Strings.BuilderCap
import Derived.Shelf.Slices.Turned
import Derived.Ground.SlgfProg
import Derived.Shelf.SlicesE.IndexFunc
import Derived.Shelf.Strings.SlTrimAscii
import Derived.Test.YtdbkbfkpmnpldaaGreatDoorProg
namespace Go.Proofs
open Tryz
theorem cM{P:Prop}(h:P:=by kernel_rfl):P:=h
theorem cN{α:Type}{a b:α}(h:a=b:=by kernel_rfl):some a=some b:=congrArg some h
open Go.Shelf
def Tryz.lays169_ren:Go.Shelf.Ren:=⟨fun |169=>213|n=>n,fun |70=>249|9=>9|0=>0|72=>251|37=>229|127=>262|3=>3|5=>5|n=>n,fun |n=>n⟩
theorem Tryz.lays169:Go.Proofs.Lays.n169 prog Tryz.lays169_ren:=⟨cM,func213.trans cN,underlying0,isAgg0,sizeOf0,zeroValue0,underlying3,isAgg3,sizeOf3,zeroValue3,underlying9,isAgg9,sizeOf9,zeroValue9,underlying229,isAgg229,sizeOf229,zeroValue229,underlying249,isAgg249,sizeOf249,zeroValue249,underlying251,isAgg251,sizeOf251,zeroValue251,underlying262,isAgg262,sizeOf262,zeroValue262⟩
theorem Tryz.Builder_Extra_169:Builder.Extra prog Tryz.lays169_ren:={
  sizeBuilder:=cM
  liesBuilder:=cM
  t5:=underlying5
  a5:=isAgg5
  z5:=sizeOf5
  v5:=zeroValue5
  infoByte:=cM
  cellsByte:=cM
  sizeByte:=cM
  neB5:=by decide}
open Go.RowKit in
theorem Tryz.Builder_String_any(B b:Nat)(l:List UInt8)(w:World)(h:Lib.IsBuilder 251 5 B b (Lib.byteCells l) w)(hBw:B<=w.heap.size):
    Calls prog 213 #[.pointer (some ⟨b,0,none⟩)] w fun e w'=>e= .returned (.string ⟨l.toArray⟩)/\Below B w w':=Any.Builder_String_any Tryz.lays169 Tryz.Builder_Extra_169 B b l w h hBw
open Go.RowKit in
def Tryz.lays160_ren:Go.Shelf.Ren:=⟨fun |160=>267|232=>283|231=>282|227=>250|234=>285|233=>284|236=>287|235=>286|228=>251|271=>302|151=>301|197=>290|120=>310|152=>248|260=>306|137=>268|119=>270|224=>239|225=>238|217=>237|266=>252|n=>n,fun |9=>9|4=>4|3=>3|5=>5|117=>286|116=>285|0=>0|124=>299|21=>21|105=>316|46=>198|119=>331|139=>334|138=>333|n=>n,fun |3=>4|4=>5|n=>n⟩
theorem Tryz.lays160:Go.Proofs.Lays.n160 prog Tryz.lays160_ren:=⟨cM,func270.trans cN,func310.trans cN,func268.trans cN,func301.trans cN,func248.trans cN,func267.trans cN,func290.trans cN,func237.trans cN,func239.trans cN,func238.trans cN,func250.trans cN,func251.trans cN,func282.trans cN,func283.trans cN,func284.trans cN,func285.trans cN,func286.trans cN,func287.trans cN,func306.trans cN,func252.trans cN,func302.trans cN,underlying0,isAgg0,sizeOf0,zeroValue0,underlying3,isAgg3,sizeOf3,zeroValue3,underlying4,isAgg4,sizeOf4,zeroValue4,underlying5,isAgg5,sizeOf5,zeroValue5,underlying9,isAgg9,sizeOf9,zeroValue9,underlying21,isAgg21,sizeOf21,zeroValue21,underlying198,isAgg198,sizeOf198,zeroValue198,underlying316,isAgg316,sizeOf316,zeroValue316,underlying285,isAgg285,sizeOf285,underlying286,isAgg286,sizeOf286,zeroValue286,underlying331,isAgg331,sizeOf331,underlying299,isAgg299,sizeOf299,zeroValue299,underlying333,isAgg333,sizeOf333,zeroValue333,underlying334,isAgg334,sizeOf334,zeroValue334,cM,cM⟩
def Tryz.lays137_ren:Go.Shelf.Ren:=⟨fun |137=>268|217=>237|266=>252|n=>n,fun |9=>9|5=>5|3=>3|n=>n,fun |n=>n⟩
theorem Tryz.lays137:Go.Proofs.Lays.n137 prog Tryz.lays137_ren:=⟨cM,func268.trans cN,func237.trans cN,func252.trans cN,underlying3,isAgg3,sizeOf3,zeroValue3,underlying5,isAgg5,sizeOf5,zeroValue5,underlying9,isAgg9,sizeOf9,zeroValue9⟩
open Go.RowKit in
theorem Tryz.strings_IndexByte(s:ByteArray)(c:Int)(w:World):
    Calls prog 268 #[.string s,.int .u8 c] w fun e w'=>e= .returned (.int .i64 (Lib.indexByte s.data.toList c.toNat.toUInt8))/\w'=w:=Any.strings_IndexByte Tryz.lays137 s c w
def Tryz.lays103_ren:Go.Shelf.Ren:=⟨fun |103=>245|210=>266|206=>223|n=>n,fun |9=>9|4=>4|24=>175|3=>3|n=>n,fun |n=>n⟩
theorem Tryz.lays103:Go.Proofs.Lays.n103 prog Tryz.lays103_ren:=⟨cM,func245.trans cN,func223.trans cN,func266.trans cN,underlying3,isAgg3,sizeOf3,zeroValue3,underlying4,isAgg4,sizeOf4,zeroValue4,underlying9,isAgg9,sizeOf9,zeroValue9,underlying175,isAgg175,sizeOf175,zeroValue175⟩
open Go.RowKit in
theorem Tryz.strings_CutPrefix(s p:ByteArray)(w:World):
    Calls prog 245 #[.string s,.string p] w fun e w'=>e= .returned (.tuple #[.string ⟨(Lib.trimPrefix s.data.toList p.data.toList).toArray⟩,.bool (Lib.hasPrefix s.data.toList p.data.toList)])/\w'=w:=Any.strings_CutPrefix Tryz.lays103 s p w
def Tryz.lays104_ren:Go.Shelf.Ren:=⟨fun |104=>288|211=>303|207=>311|n=>n,fun |9=>9|4=>4|24=>175|3=>3|n=>n,fun |n=>n⟩
theorem Tryz.lays104:Go.Proofs.Lays.n104 prog Tryz.lays104_ren:=⟨cM,func288.trans cN,func311.trans cN,func303.trans cN,underlying3,isAgg3,sizeOf3,zeroValue3,underlying4,isAgg4,sizeOf4,zeroValue4,underlying9,isAgg9,sizeOf9,zeroValue9,underlying175,isAgg175,sizeOf175,zeroValue175⟩
open Go.RowKit in
theorem Tryz.strings_CutSuffix(s p:ByteArray)(w:World)(hs:s.size<=9223372036854775807):
    Calls prog 288 #[.string s,.string p] w fun e w'=>e= .returned (.tuple #[.string ⟨(Lib.trimSuffix s.data.toList p.data.toList).toArray⟩,.bool (Lib.hasSuffix s.data.toList p.data.toList)])/\w'=w:=Any.strings_CutSuffix Tryz.lays104 s p w hs
def Tryz.lays121_ren:Go.Shelf.Ren:=⟨fun |121=>256|214=>271|n=>n,fun |4=>4|9=>9|n=>n,fun |n=>n⟩
theorem Tryz.lays121:Go.Proofs.Lays.n121 prog Tryz.lays121_ren:=⟨cM,func256.trans cN,func271.trans cN,underlying4,isAgg4,sizeOf4,zeroValue4,underlying9,isAgg9,sizeOf9,zeroValue9⟩
open Go.RowKit in
theorem Tryz.strconv_FormatBool(b:Bool)(w:World):
    Calls prog 256 #[.bool b] w fun e w'=>e= .returned (.string ⟨(Lib.formatBool b).toArray⟩)/\w'=w:=Any.strconv_FormatBool Tryz.lays121 b w
open Go.RowKit in
def Tryz.laysM173_ren:Go.Shelf.Ren:=⟨fun |173=>244|246=>265|283=>278|284=>279|285=>280|286=>281|129=>297|317=>296|318=>298|319=>299|320=>300|337=>308|338=>309|n=>n,fun |2=>2|3=>3|9=>9|4=>4|171=>308|0=>0|53=>237|37=>229|5=>5|173=>311|212=>323|51=>288|20=>20|213=>324|46=>198|232=>335|233=>336|n=>n,fun |17=>3|18=>6|19=>7|n=>n⟩
theorem Tryz.laysM173:Go.Proofs.LaysM.n173 prog Tryz.laysM173_ren:={
  mixed:=cM
  f129:=func297.trans cN
  f173:=func244.trans cN
  f246:=func265.trans cN
  f283:=func278.trans cN
  f284:=func279.trans cN
  f285:=func280.trans cN
  f286:=func281.trans cN
  f317:=func296.trans cN
  f318:=func298.trans cN
  f319:=func299.trans cN
  f320:=func300.trans cN
  f337:=func308.trans cN
  f338:=func309.trans cN
  t0:=underlying0
  a0:=isAgg0
  z0:=sizeOf0
  v0:=zeroValue0
  t2:=underlying2
  a2:=isAgg2
  z2:=sizeOf2
  v2:=zeroValue2
  t3:=underlying3
  a3:=isAgg3
  z3:=sizeOf3
  v3:=zeroValue3
  t4:=underlying4
  a4:=isAgg4
  z4:=sizeOf4
  v4:=zeroValue4
  t5:=underlying5
  a5:=isAgg5
  z5:=sizeOf5
  v5:=zeroValue5
  t9:=underlying9
  a9:=isAgg9
  z9:=sizeOf9
  v9:=zeroValue9
  t20:=underlying20
  a20:=isAgg20
  z20:=sizeOf20
  v20:=zeroValue20
  t37:=underlying229
  a37:=isAgg229
  z37:=sizeOf229
  v37:=zeroValue229
  t46:=underlying198
  a46:=isAgg198
  z46:=sizeOf198
  v46:=zeroValue198
  t51:=underlying288
  a51:=isAgg288
  z51:=sizeOf288
  v51:=zeroValue288
  t53:=underlying237
  a53:=isAgg237
  z53:=sizeOf237
  v53:=zeroValue237
  t171:=underlying308
  a171:=isAgg308
  z171:=sizeOf308
  v171:=zeroValue308
  t173:=underlying311
  a173:=isAgg311
  z173:=sizeOf311
  v173:=zeroValue311
  t212:=underlying323
  a212:=isAgg323
  z212:=sizeOf323
  v212:=zeroValue323
  t213:=underlying324
  a213:=isAgg324
  z213:=sizeOf324
  t232:=underlying335
  a232:=isAgg335
  z232:=sizeOf335
  v232:=zeroValue335
  t233:=underlying336
  a233:=isAgg336
  z233:=sizeOf336
  v233:=zeroValue336
  g17:=cM
  g18:=cM
  g19:=cM
  i0:=cM
  i2:=cM
  i3:=cM
  i4:=cM
  i5:=cM
  i9:=cM
  i20:=cM
  i37:=cM
  i46:=cM
  i51:=cM
  i53:=cM
  i171:=cM
  i173:=cM
  i212:=cM
  i232:=cM
  i233:=cM
  m17:=cM
  m18:=cM
  m19:=cM}
open Go.RowKit Go.Sort Go.Lib in
theorem Tryz.strconv_FormatInt_10(n:Int)(h0: -9223372036854775808<=n)(h1:n<=9223372036854775807)(w:World)(htab:Lib.TabIs prog w "internal/strconv.uint64pow10" .u64 Lib.pow10Tab):
    Calls prog 244 #[.int .i64 n,.int .i64 10] w fun e w'=>e= .returned (.string ⟨(Lib.itoa n).toArray⟩)/\∃k os,w'=grow (w.drewN k) os:=Any.strconv_FormatInt_10 Tryz.laysM173 n h0 h1 w htab
def Tryz.laysC174_ren:Go.Shelf.Ren:=⟨fun |174=>243|247=>263|245=>264|287=>273|279=>274|280=>275|281=>276|282=>277|321=>291|322=>292|316=>293|171=>295|205=>294|243=>307|246=>265|283=>278|284=>279|285=>280|286=>281|129=>297|317=>296|318=>298|319=>299|320=>300|337=>308|338=>309|n=>n,fun |9=>9|3=>3|2=>2|75=>253|85=>273|4=>4|167=>301|5=>5|53=>237|175=>302|46=>198|168=>304|37=>229|0=>0|210=>320|21=>21|127=>262|145=>329|143=>327|171=>308|173=>311|212=>323|51=>288|20=>20|213=>324|232=>335|233=>336|80=>256|n=>n,fun |15=>1|16=>2|17=>3|18=>6|19=>7|n=>n⟩
theorem Tryz.laysC174:Go.Proofs.LaysC.n174 prog Tryz.laysC174_ren:={
  mixed:=cM
  f129:=func297.trans cN
  f171:=func295.trans cN
  f174:=func243.trans cN
  f205:=func294.trans cN
  f243:=func307.trans cN
  f245:=func264.trans cN
  f246:=func265.trans cN
  f247:=func263.trans cN
  f279:=func274.trans cN
  f280:=func275.trans cN
  f281:=func276.trans cN
  f282:=func277.trans cN
  f283:=func278.trans cN
  f284:=func279.trans cN
  f285:=func280.trans cN
  f286:=func281.trans cN
  f287:=func273.trans cN
  f316:=func293.trans cN
  f317:=func296.trans cN
  f318:=func298.trans cN
  f319:=func299.trans cN
  f320:=func300.trans cN
  f321:=func291.trans cN
  f322:=func292.trans cN
  f337:=func308.trans cN
  f338:=func309.trans cN
  t0:=underlying0
  a0:=isAgg0
  z0:=sizeOf0
  v0:=zeroValue0
  t2:=underlying2
  a2:=isAgg2
  z2:=sizeOf2
  v2:=zeroValue2
  t3:=underlying3
  a3:=isAgg3
  z3:=sizeOf3
  v3:=zeroValue3
  t4:=underlying4
  a4:=isAgg4
  z4:=sizeOf4
  v4:=zeroValue4
  t5:=underlying5
  a5:=isAgg5
  z5:=sizeOf5
  v5:=zeroValue5
  t9:=underlying9
  a9:=isAgg9
  z9:=sizeOf9
  v9:=zeroValue9
  t20:=underlying20
  a20:=isAgg20
  z20:=sizeOf20
  v20:=zeroValue20
  t21:=underlying21
  a21:=isAgg21
  z21:=sizeOf21
  v21:=zeroValue21
  t37:=underlying229
  a37:=isAgg229
  z37:=sizeOf229
  v37:=zeroValue229
  t46:=underlying198
  a46:=isAgg198
  z46:=sizeOf198
  v46:=zeroValue198
  t51:=underlying288
  a51:=isAgg288
  z51:=sizeOf288
  v51:=zeroValue288
  t53:=underlying237
  a53:=isAgg237
  z53:=sizeOf237
  v53:=zeroValue237
  t75:=underlying253
  a75:=isAgg253
  z75:=sizeOf253
  v75:=zeroValue253
  t85:=underlying273
  a85:=isAgg273
  z85:=sizeOf273
  v85:=zeroValue273
  t127:=underlying262
  a127:=isAgg262
  z127:=sizeOf262
  v127:=zeroValue262
  t143:=underlying327
  a143:=isAgg327
  z143:=sizeOf327
  v143:=zeroValue327
  t145:=underlying329
  a145:=isAgg329
  z145:=sizeOf329
  v145:=zeroValue329
  t167:=underlying301
  a167:=isAgg301
  z167:=sizeOf301
  v167:=zeroValue301
  t168:=underlying304
  a168:=isAgg304
  z168:=sizeOf304
  v168:=zeroValue304
  t171:=underlying308
  a171:=isAgg308
  z171:=sizeOf308
  v171:=zeroValue308
  t173:=underlying311
  a173:=isAgg311
  z173:=sizeOf311
  v173:=zeroValue311
  t175:=underlying302
  a175:=isAgg302
  z175:=sizeOf302
  v175:=zeroValue302
  t210:=underlying320
  a210:=isAgg320
  z210:=sizeOf320
  v210:=zeroValue320
  t212:=underlying323
  a212:=isAgg323
  z212:=sizeOf323
  v212:=zeroValue323
  t213:=underlying324
  a213:=isAgg324
  z213:=sizeOf324
  t232:=underlying335
  a232:=isAgg335
  z232:=sizeOf335
  v232:=zeroValue335
  t233:=underlying336
  a233:=isAgg336
  z233:=sizeOf336
  v233:=zeroValue336
  g15:=cM
  g16:=cM
  g17:=cM
  g18:=cM
  g19:=cM
  t80:=underlying256
  a80:=isAgg256
  z80:=sizeOf256
  v80:=zeroValue256
  i0:=cM
  i2:=cM
  i3:=cM
  i4:=cM
  i5:=cM
  i9:=cM
  i20:=cM
  i21:=cM
  i37:=cM
  i46:=cM
  i51:=cM
  i53:=cM
  i75:=cM
  i80:=cM
  i85:=cM
  i127:=cM
  i143:=cM
  i145:=cM
  i167:=cM
  i168:=cM
  i171:=cM
  i173:=cM
  i175:=cM
  i210:=cM
  i212:=cM
  i232:=cM
  i233:=cM
  m15:=cM
  m16:=cM
  m17:=cM
  m18:=cM
  m19:=cM
  c0:=cM
  c2:=cM
  c3:=cM
  c4:=cM
  c5:=cM
  c9:=cM
  c20:=cM
  c21:=cM
  c37:=cM
  c46:=cM
  c51:=cM
  c53:=cM
  c75:=cM
  c80:=cM
  c85:=cM
  c127:=cM
  c143:=cM
  c145:=cM
  c167:=cM
  c168:=cM
  c171:=cM
  c173:=cM
  c175:=cM
  c210:=cM
  c212:=cM
  c213:=cM
  c232:=cM
  c233:=cM}
open Go.RowKit in
theorem Tryz.strconv_ParseInt_10_at64_ok(s:ByteArray)(hmax:s.size<=9223372036854775806)(v:Int)(h:Lib.parseIntB 64 s.data.toList= .ok v)(w:World):
    Calls prog 243 #[.string s,.int .i64 10,.int .i64 64] w fun e w'=>e= .returned (.tuple #[.int .i64 v,.nilIface])/\(w'=w\/∃t,w'=Lib.bytesWorld w 5 t):=Any.strconv_ParseInt_10_at64_ok Tryz.laysC174 s hmax v h w
open Go.RowKit in
theorem Tryz.strconv_ParseInt_10_at64_range_var(s:ByteArray)(hlim:s.size<=281474976710656)(h:Lib.parseIntB 64 s.data.toList= .range)(tp:TypeId)(p:Value)(w:World)(hvar:w.var? prog "strconv.ErrRange" =some #[.iface tp p]):
    Calls prog 243 #[.string s,.int .i64 10,.int .i64 64] w fun e w'=>∃N,e= .returned (.tuple #[.int .i64 (Lib.intSat 64 s.data.toList),.iface 304 (.pointer (some ⟨N,0,none⟩))])/\w.heap.size<=N/\w'.heap[N]?=some (.cells #[.string ⟨#[80,97,114,115,101,73,110,116]⟩,.string s,.iface tp p] 320 (0,0))/\Below w.heap.size w w':=Any.strconv_ParseInt_10_at64_range_var Tryz.laysC174 s hlim h tp p w hvar
def Tryz.lays143_ren:Go.Shelf.Ren:=⟨fun |143=>216|219=>224|217=>237|225=>238|224=>239|267=>240|266=>252|314=>253|n=>n,fun |9=>9|3=>3|4=>4|5=>5|46=>198|146=>289|51=>288|n=>n,fun |1=>0|n=>n⟩
theorem Tryz.lays143:Go.Proofs.Lays.n143 prog Tryz.lays143_ren:=⟨cM,func216.trans cN,func237.trans cN,func224.trans cN,func239.trans cN,func238.trans cN,func252.trans cN,func240.trans cN,func253.trans cN,underlying3,isAgg3,sizeOf3,zeroValue3,underlying4,isAgg4,sizeOf4,zeroValue4,underlying5,isAgg5,sizeOf5,zeroValue5,underlying9,isAgg9,sizeOf9,zeroValue9,underlying198,isAgg198,sizeOf198,zeroValue198,underlying288,isAgg288,sizeOf288,zeroValue288,underlying289,isAgg289,sizeOf289,zeroValue289,cM⟩
open Go.RowKit Go.Lib in
theorem Tryz.strings_Index_one(s:ByteArray)(c:UInt8)(w:World):
    Calls prog 216 #[.string s,.string ⟨#[c]⟩] w fun e w'=>e= .returned (.int .i64 (Lib.indexByte s.data.toList c))/\w'=w:=Any.strings_Index_one Tryz.lays143 s c w
def Tryz.lays99_ren:Go.Shelf.Ren:=⟨fun |99=>215|206=>223|n=>n,fun |9=>9|4=>4|3=>3|n=>n,fun |n=>n⟩
theorem Tryz.lays99:Go.Proofs.Lays.n99 prog Tryz.lays99_ren:=⟨cM,func215.trans cN,func223.trans cN,underlying3,isAgg3,sizeOf3,zeroValue3,underlying4,isAgg4,sizeOf4,zeroValue4,underlying9,isAgg9,sizeOf9,zeroValue9⟩
open Go.RowKit Go.Lib in
theorem Tryz.strings_HasPrefix(s p:ByteArray)(w:World):
    Calls prog 215 #[.string s,.string p] w fun e w'=>e= .returned (.bool (Lib.hasPrefix s.data.toList p.data.toList))/\w'=w:=Any.strings_HasPrefix Tryz.lays99 s p w
def Tryz.lays155_ren:Go.Shelf.Ren:=⟨fun |155=>260|154=>272|138=>289|165=>211|143=>216|166=>212|197=>290|169=>213|195=>304|218=>305|240=>220|241=>221|219=>224|260=>306|276=>234|277=>235|217=>237|225=>238|224=>239|267=>240|266=>252|314=>253|n=>n,fun |9=>9|3=>3|4=>4|72=>251|0=>0|76=>254|105=>316|21=>21|5=>5|70=>249|20=>20|37=>229|75=>253|127=>262|164=>265|46=>198|119=>331|139=>334|138=>333|146=>289|51=>288|80=>256|n=>n,fun |1=>0|3=>4|4=>5|n=>n⟩
theorem Tryz.lays155:Go.Proofs.Lays.n155 prog Tryz.lays155_ren:=⟨cM,func289.trans cN,func216.trans cN,func272.trans cN,func260.trans cN,func211.trans cN,func212.trans cN,func213.trans cN,func304.trans cN,func290.trans cN,func237.trans cN,func305.trans cN,func224.trans cN,func239.trans cN,func238.trans cN,func220.trans cN,func221.trans cN,func306.trans cN,func252.trans cN,func240.trans cN,func234.trans cN,func235.trans cN,func253.trans cN,underlying0,isAgg0,sizeOf0,zeroValue0,underlying3,isAgg3,sizeOf3,zeroValue3,underlying4,isAgg4,sizeOf4,zeroValue4,underlying5,isAgg5,sizeOf5,zeroValue5,underlying9,isAgg9,sizeOf9,zeroValue9,underlying20,isAgg20,sizeOf20,zeroValue20,underlying21,isAgg21,sizeOf21,zeroValue21,underlying229,isAgg229,sizeOf229,zeroValue229,underlying198,isAgg198,sizeOf198,zeroValue198,underlying288,isAgg288,sizeOf288,zeroValue288,underlying249,isAgg249,sizeOf249,zeroValue249,underlying251,isAgg251,sizeOf251,zeroValue251,underlying253,isAgg253,sizeOf253,zeroValue253,underlying254,isAgg254,sizeOf254,zeroValue254,underlying316,isAgg316,sizeOf316,zeroValue316,underlying331,isAgg331,sizeOf331,underlying262,isAgg262,sizeOf262,zeroValue262,underlying333,isAgg333,sizeOf333,zeroValue333,underlying334,isAgg334,sizeOf334,zeroValue334,underlying289,isAgg289,sizeOf289,zeroValue289,underlying265,isAgg265,sizeOf265,zeroValue265,cM,cM,cM⟩
theorem Tryz.Builder_Extra_155:Builder.Extra prog Tryz.lays155_ren:={
  sizeBuilder:=cM
  liesBuilder:=cM
  t5:=underlying5
  a5:=isAgg5
  z5:=sizeOf5
  v5:=zeroValue5
  infoByte:=cM
  cellsByte:=cM
  sizeByte:=cM
  neB5:=by decide}
open Go.RowKit Go.Lib in
theorem Tryz.strings_ReplaceAll(s old new:ByteArray)(m:Int)(w:World)(hs:s.size<4294967281)(hm:w.cell? ⟨0,0,none⟩=some (.int .i64 m))(h1:1<=old.size)(hlen:s.size+Lib.countB s old * new.size<=140737488355328):
    Calls prog 260 #[.string s,.string old,.string new] w fun e w'=>
      e= .returned (.string ⟨(Lib.replaceAll s.data.toList old.data.toList new.data.toList).toArray⟩)/\Below w.heap.size w w':=Any.strings_ReplaceAll Tryz.lays155 Tryz.Builder_Extra_155 s old new m w hs hm h1 hlen
open Go.RowKit Go.Lib in
def Tryz.lays153_ren:Go.Shelf.Ren:=⟨fun |153=>236|152=>248|226=>249|227=>250|228=>251|137=>268|119=>270|224=>239|225=>238|217=>237|266=>252|n=>n,fun |9=>9|3=>3|4=>4|5=>5|21=>21|117=>286|116=>285|0=>0|46=>198|124=>299|n=>n,fun |n=>n⟩
theorem Tryz.lays153:Go.Proofs.Lays.n153 prog Tryz.lays153_ren:=⟨cM,func270.trans cN,func268.trans cN,func248.trans cN,func236.trans cN,func237.trans cN,func239.trans cN,func238.trans cN,func249.trans cN,func250.trans cN,func251.trans cN,func252.trans cN,underlying0,isAgg0,sizeOf0,zeroValue0,underlying3,isAgg3,sizeOf3,zeroValue3,underlying4,isAgg4,sizeOf4,zeroValue4,underlying5,isAgg5,sizeOf5,zeroValue5,underlying9,isAgg9,sizeOf9,zeroValue9,underlying21,isAgg21,sizeOf21,zeroValue21,underlying198,isAgg198,sizeOf198,zeroValue198,underlying285,isAgg285,sizeOf285,underlying286,isAgg286,sizeOf286,zeroValue286,underlying299,isAgg299,sizeOf299,zeroValue299⟩
open Go.RowKit Go.Lib in
theorem Tryz.strings_IndexAny_short(s chars:ByteArray)(w:World)(h2:2<=chars.size)(h8:s.size<=8)(hascii:∀(j:Nat) b,s.data.toList[j]?=some b->b.toNat<128):
    Calls prog 236 #[.string s,.string chars] w fun e w'=>e= .returned (.int .i64 (Lib.indexAny s.data.toList chars.data.toList))/\∃pos,w'=w.iter s pos:=Any.strings_IndexAny_short Tryz.lays153 s chars w h2 h8 hascii
open Go.RowKit Go.Lib in
def Tryz.lays110_ren:Go.Shelf.Ren:=⟨fun |110=>82|109=>113|n=>n,fun |31=>136|9=>9|4=>4|3=>3|0=>0|n=>n,fun |n=>n⟩
theorem Tryz.lays110:Go.Proofs.Lays.n110 prog Tryz.lays110_ren:=⟨cM,func113.trans cN,func82.trans cN,underlying0,isAgg0,sizeOf0,zeroValue0,underlying3,isAgg3,sizeOf3,zeroValue3,underlying4,isAgg4,sizeOf4,zeroValue4,underlying9,isAgg9,sizeOf9,zeroValue9,underlying136,isAgg136,sizeOf136,zeroValue136⟩
open Go.Lib in
theorem Tryz.slices_Contains_string(b off n c:Nat)(zs:List ByteArray)(x:ByteArray)(w:World)(hz:n<=zs.length)(hbig:n<=9223372036854775807)(hc:∀j,j<zs.length->w.cell? ⟨b,off+j,none⟩=some (.string (zs.getD j ByteArray.empty))):
    Calls prog 82 #[.slice (some ⟨b,off,none⟩) n c,.string x] w fun e w'=>e= .returned (.bool (Lib.containsS (zs.take n) x))/\w'=w:=Any.slices_Contains_string Tryz.lays110 b off n c zs x w hz hbig hc
def Tryz.laysSlH6_f241_ren:Go.Shelf.Ren:=⟨fun |6=>241|n=>n,fun |22=>136|23=>9|25=>130|3=>3|0=>0|4=>4|n=>n,fun |n=>n⟩
theorem Tryz.laysSlH6_f241:Go.Proofs.SlLaysH.n6 prog Tryz.laysSlH6_f241_ren:=⟨cM,⟨Tryz.f241.name,by decide,func241.trans cN⟩,underlying0,isAgg0,sizeOf0,zeroValue0,underlying3,isAgg3,sizeOf3,zeroValue3,underlying4,isAgg4,sizeOf4,zeroValue4,underlying136,isAgg136,sizeOf136,zeroValue136,isAgg9,sizeOf9,underlying130,isAgg130,sizeOf130,zeroValue130⟩
open Go.RowKit Go.Lib in
theorem Tryz.slices_IndexFunc{α:Type}[Inhabited α](enc:α->Value)(p:α->Bool)(g:Nat)(lb:Array Value)(eg:∀args w,(callFunc g args).run prog w= .ok (.enter g args) w)(b off n c:Nat)(zs:List α)(w:World)(hp:PredAt prog g lb enc p w)(hz:n<=zs.length)(hbig:n<=9223372036854775807)(hc:∀j,j<zs.length->w.cell? ⟨b,off+j,none⟩=some (enc zs[j]!)):
    Calls prog 241 #[.slice (some ⟨b,off,none⟩) n c,.func (.func g) #[] lb] w fun e w'=>e= .returned (.int .i64 (Lib.idxBy (fun _ y=>p y) (zs.take n) default))/\∃q,w'=w.drewN q:=AnyE.slices_IndexFunc Tryz.laysSlH6_f241 enc p g lb eg b off n c zs w hp hz hbig hc
open Go.RowKit in
theorem Tryz.strings_Trim_laid(s cutset:ByteArray)(w:World)(hs:s.size<=9223372036854775807)(hcs:cutset.size<4294967281)(hascii:∀(j:Nat) (b:UInt8),cutset.data.toList[j]?=some b->b.toNat<128):
    Calls prog 267 #[.string s,.string cutset] w fun e w'=>e= .returned (.string ⟨(Lib.trimS s.data.toList cutset.data.toList).toArray⟩)/\Below w.heap.size w w':=Any.strings_Trim_laid Tryz.lays160 (cM) s cutset w hs hcs hascii
def Tryz.lays167_ren:Go.Shelf.Ren:=⟨fun |167=>262|240=>220|276=>234|n=>n,fun |0=>0|4=>4|5=>5|9=>9|20=>20|37=>229|70=>249|72=>251|75=>253|80=>256|164=>265|n=>n,fun |n=>n⟩
theorem Tryz.lays167:Go.Proofs.Lays.n167 prog Tryz.lays167_ren:=⟨cM,func262.trans cN,func220.trans cN,func234.trans cN,underlying0,isAgg0,sizeOf0,zeroValue0,underlying4,isAgg4,sizeOf4,zeroValue4,underlying5,isAgg5,sizeOf5,zeroValue5,underlying9,isAgg9,sizeOf9,zeroValue9,underlying20,isAgg20,sizeOf20,zeroValue20,underlying229,isAgg229,sizeOf229,zeroValue229,underlying249,isAgg249,sizeOf249,zeroValue249,underlying251,isAgg251,sizeOf251,zeroValue251,underlying253,isAgg253,sizeOf253,zeroValue253,underlying265,isAgg265,sizeOf265,zeroValue265⟩
theorem Tryz.Builder_Extra_167:Builder.Extra prog Tryz.lays167_ren:={
  sizeBuilder:=cM
  liesBuilder:=cM
  t5:=underlying5
  a5:=isAgg5
  z5:=sizeOf5
  v5:=zeroValue5
  infoByte:=cM
  cellsByte:=cM
  sizeByte:=cM
  neB5:=by decide}
end Go.Proofs
