/- The shelf's contracts. -/
import Derived.Shelf.Strings.Builder1
import Derived.Shelf.Strings.Builder2
import Derived.Shelf.Strings.OnBuilder
import Derived.Shelf.Strings.Trim
import Derived.Shelf.Small.Utf8
import Derived.Shelf.Small.Strs
import Derived.Shelf.Small.Wraps
import Derived.Shelf.Strings.BuilderF
import Derived.Shelf.Strings.BuilderK
import Derived.Shelf.Utf8.RuneCount
import Derived.Shelf.Strings.Builder2Cap
import Derived.Shelf.Strconv.Itoa0
import Derived.Shelf.Strconv.Itoa1
import Derived.Shelf.LaysM
import Derived.Shelf.Strconv.Itoa2
import Derived.Shelf.Strconv.Itoa3
import Derived.Shelf.Strconv.Itoa4
import Derived.Shelf.Strconv.ParseIntEmpty
import Derived.Shelf.Strconv.Clone
import Derived.Shelf.Strconv.SyntaxError
import Derived.Shelf.LaysC
import Derived.Shelf.Strconv.ToError
import Derived.Shelf.Strconv.Lower
import Derived.Shelf.Strconv.ParseUint10
import Derived.Shelf.Strconv.ParseUint10Empty
import Derived.Shelf.Strconv.ParseUint10Any
import Derived.Shelf.Strconv.ParseInt10
import Derived.Shelf.Strconv.RangeError
import Derived.Shelf.Strconv.ToErrorRange
import Derived.Shelf.Strconv.ParseUintEmpty
import Derived.Shelf.Strconv.ParseUint10b64
import Derived.Shelf.Strconv.ParseUint10b32
import Derived.Shelf.Strconv.ParseUint10b16
import Derived.Shelf.Strconv.ParseUint10b8
import Derived.Shelf.Strconv.ParseUint10At
import Derived.Shelf.Strconv.ParseInt10At64
import Derived.Shelf.Strconv.ParseInt10At32
import Derived.Shelf.Strconv.ParseInt10At16
import Derived.Shelf.Strconv.ParseInt10At8
import Derived.Shelf.Strconv.ParseInt10All
import Derived.Shelf.Strconv.ParseIntPublic10
import Derived.Shelf.Strconv.ErrVarParseInt
import Derived.Shelf.Strings.Search1
import Derived.Shelf.Strings.Search2
import Derived.Shelf.Strings.Search3
import Derived.Shelf.Strings.Count
import Derived.Shelf.Strings.Shaped
import Derived.Shelf.Strings.Prefix
import Derived.Shelf.Strings.Split
import Derived.Shelf.Strings.Replace
import Derived.Shelf.Strings.SplitShaped
import Derived.Shelf.Strings.Runes
import Derived.Shelf.Strings.RuneCount
import Derived.Shelf.Strings.IndexAny
import Derived.Shelf.Strings.AsciiSet
import Derived.Shelf.Strings.IndexAnyAll
import Derived.Shelf.Unicode.DecodeSlow
import Derived.Shelf.Strings.BuilderCap
import Derived.Shelf.Slices.Turned
import Derived.Ground.SlgfProg
import Derived.Shelf.SlicesE.IndexFunc
import Derived.Shelf.Strings.SlTrimAscii
import Derived.Test.YtpcmbndoagafmaaGreatDoorProg
namespace Go.Proofs
open Go.Shelf
def Tryz.lays169_ren:Go.Shelf.Ren:=⟨fun |169=>166|n=>n,fun |70=>201|9=>9|0=>0|72=>204|37=>202|127=>235|3=>3|5=>5|n=>n,fun |n=>n⟩
theorem Tryz.lays169:Go.Proofs.Lays.n169 Tryz.prog Tryz.lays169_ren:={
  mixed:=by kernel_rfl
  f169:=Tryz.func166.trans (congrArg some (by kernel_rfl))
  t0:=Tryz.underlying0
  a0:=Tryz.isAgg0
  z0:=Tryz.sizeOf0
  v0:=Tryz.zeroValue0
  t3:=Tryz.underlying3
  a3:=Tryz.isAgg3
  z3:=Tryz.sizeOf3
  v3:=Tryz.zeroValue3
  t9:=Tryz.underlying9
  a9:=Tryz.isAgg9
  z9:=Tryz.sizeOf9
  v9:=Tryz.zeroValue9
  t37:=Tryz.underlying202
  a37:=Tryz.isAgg202
  z37:=Tryz.sizeOf202
  v37:=Tryz.zeroValue202
  t70:=Tryz.underlying201
  a70:=Tryz.isAgg201
  z70:=Tryz.sizeOf201
  v70:=Tryz.zeroValue201
  t72:=Tryz.underlying204
  a72:=Tryz.isAgg204
  z72:=Tryz.sizeOf204
  v72:=Tryz.zeroValue204
  t127:=Tryz.underlying235
  a127:=Tryz.isAgg235
  z127:=Tryz.sizeOf235
  v127:=Tryz.zeroValue235}
theorem Tryz.Builder_Extra_169:Builder.Extra Tryz.prog Tryz.lays169_ren:={
  sizeBuilder:=by kernel_rfl
  liesBuilder:=by kernel_rfl
  t5:=Tryz.underlying5
  a5:=Tryz.isAgg5
  z5:=Tryz.sizeOf5
  v5:=Tryz.zeroValue5
  infoByte:=by kernel_rfl
  cellsByte:=by kernel_rfl
  sizeByte:=by kernel_rfl
  neB5:=by decide}
open Go.RowKit in
theorem Tryz.Builder_String_any(B b:Nat)(l:List UInt8)(w:World)(h:Lib.IsBuilder 204 5 B b (Lib.byteCells l) w)(hBw:B<=w.heap.size):
    Calls Tryz.prog 166 #[.pointer (some ⟨b,0,none⟩)] w fun e w'=>e= .returned (.string ⟨l.toArray⟩)/\Below B w w':=Any.Builder_String_any Tryz.lays169 Tryz.Builder_Extra_169 B b l w h hBw
def Tryz.lays156_ren:Go.Shelf.Ren:=⟨fun |156=>115|165=>164|166=>165|169=>166|240=>196|241=>197|276=>225|277=>226|n=>n,fun |31=>86|9=>9|3=>3|4=>4|0=>0|20=>20|72=>204|76=>208|70=>201|37=>202|75=>207|127=>235|164=>267|5=>5|80=>87|n=>n,fun |n=>n⟩
theorem Tryz.lays156:Go.Proofs.Lays.n156 Tryz.prog Tryz.lays156_ren:={
  mixed:=by kernel_rfl
  f156:=Tryz.func115.trans (congrArg some (by kernel_rfl))
  f165:=Tryz.func164.trans (congrArg some (by kernel_rfl))
  f166:=Tryz.func165.trans (congrArg some (by kernel_rfl))
  f169:=Tryz.func166.trans (congrArg some (by kernel_rfl))
  f240:=Tryz.func196.trans (congrArg some (by kernel_rfl))
  f241:=Tryz.func197.trans (congrArg some (by kernel_rfl))
  f276:=Tryz.func225.trans (congrArg some (by kernel_rfl))
  f277:=Tryz.func226.trans (congrArg some (by kernel_rfl))
  t0:=Tryz.underlying0
  a0:=Tryz.isAgg0
  z0:=Tryz.sizeOf0
  v0:=Tryz.zeroValue0
  t3:=Tryz.underlying3
  a3:=Tryz.isAgg3
  z3:=Tryz.sizeOf3
  v3:=Tryz.zeroValue3
  t4:=Tryz.underlying4
  a4:=Tryz.isAgg4
  z4:=Tryz.sizeOf4
  v4:=Tryz.zeroValue4
  t9:=Tryz.underlying9
  a9:=Tryz.isAgg9
  z9:=Tryz.sizeOf9
  v9:=Tryz.zeroValue9
  t20:=Tryz.underlying20
  a20:=Tryz.isAgg20
  z20:=Tryz.sizeOf20
  v20:=Tryz.zeroValue20
  t31:=Tryz.underlying86
  a31:=Tryz.isAgg86
  z31:=Tryz.sizeOf86
  v31:=Tryz.zeroValue86
  t37:=Tryz.underlying202
  a37:=Tryz.isAgg202
  z37:=Tryz.sizeOf202
  v37:=Tryz.zeroValue202
  t70:=Tryz.underlying201
  a70:=Tryz.isAgg201
  z70:=Tryz.sizeOf201
  v70:=Tryz.zeroValue201
  t72:=Tryz.underlying204
  a72:=Tryz.isAgg204
  z72:=Tryz.sizeOf204
  v72:=Tryz.zeroValue204
  t75:=Tryz.underlying207
  a75:=Tryz.isAgg207
  z75:=Tryz.sizeOf207
  v75:=Tryz.zeroValue207
  t76:=Tryz.underlying208
  a76:=Tryz.isAgg208
  z76:=Tryz.sizeOf208
  v76:=Tryz.zeroValue208
  t127:=Tryz.underlying235
  a127:=Tryz.isAgg235
  z127:=Tryz.sizeOf235
  v127:=Tryz.zeroValue235
  t164:=Tryz.underlying267
  a164:=Tryz.isAgg267
  z164:=Tryz.sizeOf267
  v164:=Tryz.zeroValue267}
theorem Tryz.Builder_Extra_156:Builder.Extra Tryz.prog Tryz.lays156_ren:={
  sizeBuilder:=by kernel_rfl
  liesBuilder:=by kernel_rfl
  t5:=Tryz.underlying5
  a5:=Tryz.isAgg5
  z5:=Tryz.sizeOf5
  v5:=Tryz.zeroValue5
  infoByte:=by kernel_rfl
  cellsByte:=by kernel_rfl
  sizeByte:=by kernel_rfl
  neB5:=by decide}
open Go.RowKit in
theorem Tryz.strings_Join(bk o c:Nat)(xs:List ByteArray)(sep:ByteArray)(w:World)(hcells:∀(j:Nat) x,xs[j]?=some x->w.cell? ⟨bk,o+j,none⟩=some (.string x))(hbk:bk<w.heap.size)(hN:xs.length<=140737488355328)(hcap:xs.length<=c)(hlen:(Lib.join (xs.map (·.data.toList)) sep.data.toList).length<=140737488355328):
    Calls Tryz.prog 115 #[.slice (some ⟨bk,o,none⟩) xs.length c,.string sep] w fun e w'=>e= .returned (.string ⟨(Lib.join (xs.map (·.data.toList)) sep.data.toList).toArray⟩)/\Below w.heap.size w w':=Any.strings_Join Tryz.lays156 Tryz.Builder_Extra_156 bk o c xs sep w hcells hbk hN hcap hlen
def Tryz.lays160_ren:Go.Shelf.Ren:=⟨fun |160=>298|232=>312|231=>311|227=>282|234=>314|233=>313|236=>316|235=>315|228=>283|271=>327|151=>326|197=>320|120=>334|152=>280|260=>332|137=>299|119=>303|224=>264|225=>263|217=>262|266=>284|n=>n,fun |9=>9|4=>4|3=>3|5=>5|117=>310|116=>309|0=>0|124=>321|21=>21|105=>332|46=>265|119=>343|139=>346|138=>345|n=>n,fun |3=>6|4=>7|n=>n⟩
theorem Tryz.lays160:Go.Proofs.Lays.n160 Tryz.prog Tryz.lays160_ren:={
  mixed:=by kernel_rfl
  f119:=Tryz.func303.trans (congrArg some (by kernel_rfl))
  f120:=Tryz.func334.trans (congrArg some (by kernel_rfl))
  f137:=Tryz.func299.trans (congrArg some (by kernel_rfl))
  f151:=Tryz.func326.trans (congrArg some (by kernel_rfl))
  f152:=Tryz.func280.trans (congrArg some (by kernel_rfl))
  f160:=Tryz.func298.trans (congrArg some (by kernel_rfl))
  f197:=Tryz.func320.trans (congrArg some (by kernel_rfl))
  f217:=Tryz.func262.trans (congrArg some (by kernel_rfl))
  f224:=Tryz.func264.trans (congrArg some (by kernel_rfl))
  f225:=Tryz.func263.trans (congrArg some (by kernel_rfl))
  f227:=Tryz.func282.trans (congrArg some (by kernel_rfl))
  f228:=Tryz.func283.trans (congrArg some (by kernel_rfl))
  f231:=Tryz.func311.trans (congrArg some (by kernel_rfl))
  f232:=Tryz.func312.trans (congrArg some (by kernel_rfl))
  f233:=Tryz.func313.trans (congrArg some (by kernel_rfl))
  f234:=Tryz.func314.trans (congrArg some (by kernel_rfl))
  f235:=Tryz.func315.trans (congrArg some (by kernel_rfl))
  f236:=Tryz.func316.trans (congrArg some (by kernel_rfl))
  f260:=Tryz.func332.trans (congrArg some (by kernel_rfl))
  f266:=Tryz.func284.trans (congrArg some (by kernel_rfl))
  f271:=Tryz.func327.trans (congrArg some (by kernel_rfl))
  t0:=Tryz.underlying0
  a0:=Tryz.isAgg0
  z0:=Tryz.sizeOf0
  v0:=Tryz.zeroValue0
  t3:=Tryz.underlying3
  a3:=Tryz.isAgg3
  z3:=Tryz.sizeOf3
  v3:=Tryz.zeroValue3
  t4:=Tryz.underlying4
  a4:=Tryz.isAgg4
  z4:=Tryz.sizeOf4
  v4:=Tryz.zeroValue4
  t5:=Tryz.underlying5
  a5:=Tryz.isAgg5
  z5:=Tryz.sizeOf5
  v5:=Tryz.zeroValue5
  t9:=Tryz.underlying9
  a9:=Tryz.isAgg9
  z9:=Tryz.sizeOf9
  v9:=Tryz.zeroValue9
  t21:=Tryz.underlying21
  a21:=Tryz.isAgg21
  z21:=Tryz.sizeOf21
  v21:=Tryz.zeroValue21
  t46:=Tryz.underlying265
  a46:=Tryz.isAgg265
  z46:=Tryz.sizeOf265
  v46:=Tryz.zeroValue265
  t105:=Tryz.underlying332
  a105:=Tryz.isAgg332
  z105:=Tryz.sizeOf332
  v105:=Tryz.zeroValue332
  t116:=Tryz.underlying309
  a116:=Tryz.isAgg309
  z116:=Tryz.sizeOf309
  t117:=Tryz.underlying310
  a117:=Tryz.isAgg310
  z117:=Tryz.sizeOf310
  v117:=Tryz.zeroValue310
  t119:=Tryz.underlying343
  a119:=Tryz.isAgg343
  z119:=Tryz.sizeOf343
  t124:=Tryz.underlying321
  a124:=Tryz.isAgg321
  z124:=Tryz.sizeOf321
  v124:=Tryz.zeroValue321
  t138:=Tryz.underlying345
  a138:=Tryz.isAgg345
  z138:=Tryz.sizeOf345
  v138:=Tryz.zeroValue345
  t139:=Tryz.underlying346
  a139:=Tryz.isAgg346
  z139:=Tryz.sizeOf346
  v139:=Tryz.zeroValue346
  g3:=by kernel_rfl
  g4:=by kernel_rfl}
def Tryz.lays137_ren:Go.Shelf.Ren:=⟨fun |137=>299|217=>262|266=>284|n=>n,fun |9=>9|5=>5|3=>3|n=>n,fun |n=>n⟩
theorem Tryz.lays137:Go.Proofs.Lays.n137 Tryz.prog Tryz.lays137_ren:={
  mixed:=by kernel_rfl
  f137:=Tryz.func299.trans (congrArg some (by kernel_rfl))
  f217:=Tryz.func262.trans (congrArg some (by kernel_rfl))
  f266:=Tryz.func284.trans (congrArg some (by kernel_rfl))
  t3:=Tryz.underlying3
  a3:=Tryz.isAgg3
  z3:=Tryz.sizeOf3
  v3:=Tryz.zeroValue3
  t5:=Tryz.underlying5
  a5:=Tryz.isAgg5
  z5:=Tryz.sizeOf5
  v5:=Tryz.zeroValue5
  t9:=Tryz.underlying9
  a9:=Tryz.isAgg9
  z9:=Tryz.sizeOf9
  v9:=Tryz.zeroValue9}
open Go.RowKit in
theorem Tryz.strings_IndexByte(s:ByteArray)(c:Int)(w:World):
    Calls Tryz.prog 299 #[.string s,.int .u8 c] w fun e w'=>e= .returned (.int .i64 (Lib.indexByte s.data.toList c.toNat.toUInt8))/\w'=w:=Any.strings_IndexByte Tryz.lays137 s c w
def Tryz.lays103_ren:Go.Shelf.Ren:=⟨fun |103=>270|210=>297|206=>213|n=>n,fun |9=>9|4=>4|24=>155|3=>3|n=>n,fun |n=>n⟩
theorem Tryz.lays103:Go.Proofs.Lays.n103 Tryz.prog Tryz.lays103_ren:={
  mixed:=by kernel_rfl
  f103:=Tryz.func270.trans (congrArg some (by kernel_rfl))
  f206:=Tryz.func213.trans (congrArg some (by kernel_rfl))
  f210:=Tryz.func297.trans (congrArg some (by kernel_rfl))
  t3:=Tryz.underlying3
  a3:=Tryz.isAgg3
  z3:=Tryz.sizeOf3
  v3:=Tryz.zeroValue3
  t4:=Tryz.underlying4
  a4:=Tryz.isAgg4
  z4:=Tryz.sizeOf4
  v4:=Tryz.zeroValue4
  t9:=Tryz.underlying9
  a9:=Tryz.isAgg9
  z9:=Tryz.sizeOf9
  v9:=Tryz.zeroValue9
  t24:=Tryz.underlying155
  a24:=Tryz.isAgg155
  z24:=Tryz.sizeOf155
  v24:=Tryz.zeroValue155}
open Go.RowKit in
theorem Tryz.strings_CutPrefix(s p:ByteArray)(w:World):
    Calls Tryz.prog 270 #[.string s,.string p] w fun e w'=>e= .returned (.tuple #[.string ⟨(Lib.trimPrefix s.data.toList p.data.toList).toArray⟩,.bool (Lib.hasPrefix s.data.toList p.data.toList)])/\w'=w:=Any.strings_CutPrefix Tryz.lays103 s p w
def Tryz.lays104_ren:Go.Shelf.Ren:=⟨fun |104=>317|211=>328|207=>335|n=>n,fun |9=>9|4=>4|24=>155|3=>3|n=>n,fun |n=>n⟩
theorem Tryz.lays104:Go.Proofs.Lays.n104 Tryz.prog Tryz.lays104_ren:={
  mixed:=by kernel_rfl
  f104:=Tryz.func317.trans (congrArg some (by kernel_rfl))
  f207:=Tryz.func335.trans (congrArg some (by kernel_rfl))
  f211:=Tryz.func328.trans (congrArg some (by kernel_rfl))
  t3:=Tryz.underlying3
  a3:=Tryz.isAgg3
  z3:=Tryz.sizeOf3
  v3:=Tryz.zeroValue3
  t4:=Tryz.underlying4
  a4:=Tryz.isAgg4
  z4:=Tryz.sizeOf4
  v4:=Tryz.zeroValue4
  t9:=Tryz.underlying9
  a9:=Tryz.isAgg9
  z9:=Tryz.sizeOf9
  v9:=Tryz.zeroValue9
  t24:=Tryz.underlying155
  a24:=Tryz.isAgg155
  z24:=Tryz.sizeOf155
  v24:=Tryz.zeroValue155}
open Go.RowKit in
theorem Tryz.strings_CutSuffix(s p:ByteArray)(w:World)(hs:s.size<=9223372036854775807):
    Calls Tryz.prog 317 #[.string s,.string p] w fun e w'=>e= .returned (.tuple #[.string ⟨(Lib.trimSuffix s.data.toList p.data.toList).toArray⟩,.bool (Lib.hasSuffix s.data.toList p.data.toList)])/\w'=w:=Any.strings_CutSuffix Tryz.lays104 s p w hs
def Tryz.lays121_ren:Go.Shelf.Ren:=⟨fun |121=>288|214=>304|n=>n,fun |4=>4|9=>9|n=>n,fun |n=>n⟩
theorem Tryz.lays121:Go.Proofs.Lays.n121 Tryz.prog Tryz.lays121_ren:={
  mixed:=by kernel_rfl
  f121:=Tryz.func288.trans (congrArg some (by kernel_rfl))
  f214:=Tryz.func304.trans (congrArg some (by kernel_rfl))
  t4:=Tryz.underlying4
  a4:=Tryz.isAgg4
  z4:=Tryz.sizeOf4
  v4:=Tryz.zeroValue4
  t9:=Tryz.underlying9
  a9:=Tryz.isAgg9
  z9:=Tryz.sizeOf9
  v9:=Tryz.zeroValue9}
open Go.RowKit in
theorem Tryz.strconv_FormatBool(b:Bool)(w:World):
    Calls Tryz.prog 288 #[.bool b] w fun e w'=>e= .returned (.string ⟨(Lib.formatBool b).toArray⟩)/\w'=w:=Any.strconv_FormatBool Tryz.lays121 b w
open Go.RowKit in
def Tryz.laysM173_ren:Go.Shelf.Ren:=⟨fun |173=>114|246=>163|283=>192|284=>193|285=>194|286=>195|129=>221|317=>220|318=>222|319=>223|320=>224|337=>259|338=>260|n=>n,fun |2=>2|3=>3|9=>9|4=>4|171=>229|0=>0|53=>230|37=>202|5=>5|173=>233|212=>262|51=>263|20=>20|213=>264|46=>265|232=>305|233=>306|n=>n,fun |17=>0|18=>2|19=>3|n=>n⟩
theorem Tryz.laysM173:Go.Proofs.LaysM.n173 Tryz.prog Tryz.laysM173_ren:={
  mixed:=by kernel_rfl
  f129:=Tryz.func221.trans (congrArg some (by kernel_rfl))
  f173:=Tryz.func114.trans (congrArg some (by kernel_rfl))
  f246:=Tryz.func163.trans (congrArg some (by kernel_rfl))
  f283:=Tryz.func192.trans (congrArg some (by kernel_rfl))
  f284:=Tryz.func193.trans (congrArg some (by kernel_rfl))
  f285:=Tryz.func194.trans (congrArg some (by kernel_rfl))
  f286:=Tryz.func195.trans (congrArg some (by kernel_rfl))
  f317:=Tryz.func220.trans (congrArg some (by kernel_rfl))
  f318:=Tryz.func222.trans (congrArg some (by kernel_rfl))
  f319:=Tryz.func223.trans (congrArg some (by kernel_rfl))
  f320:=Tryz.func224.trans (congrArg some (by kernel_rfl))
  f337:=Tryz.func259.trans (congrArg some (by kernel_rfl))
  f338:=Tryz.func260.trans (congrArg some (by kernel_rfl))
  t0:=Tryz.underlying0
  a0:=Tryz.isAgg0
  z0:=Tryz.sizeOf0
  v0:=Tryz.zeroValue0
  t2:=Tryz.underlying2
  a2:=Tryz.isAgg2
  z2:=Tryz.sizeOf2
  v2:=Tryz.zeroValue2
  t3:=Tryz.underlying3
  a3:=Tryz.isAgg3
  z3:=Tryz.sizeOf3
  v3:=Tryz.zeroValue3
  t4:=Tryz.underlying4
  a4:=Tryz.isAgg4
  z4:=Tryz.sizeOf4
  v4:=Tryz.zeroValue4
  t5:=Tryz.underlying5
  a5:=Tryz.isAgg5
  z5:=Tryz.sizeOf5
  v5:=Tryz.zeroValue5
  t9:=Tryz.underlying9
  a9:=Tryz.isAgg9
  z9:=Tryz.sizeOf9
  v9:=Tryz.zeroValue9
  t20:=Tryz.underlying20
  a20:=Tryz.isAgg20
  z20:=Tryz.sizeOf20
  v20:=Tryz.zeroValue20
  t37:=Tryz.underlying202
  a37:=Tryz.isAgg202
  z37:=Tryz.sizeOf202
  v37:=Tryz.zeroValue202
  t46:=Tryz.underlying265
  a46:=Tryz.isAgg265
  z46:=Tryz.sizeOf265
  v46:=Tryz.zeroValue265
  t51:=Tryz.underlying263
  a51:=Tryz.isAgg263
  z51:=Tryz.sizeOf263
  v51:=Tryz.zeroValue263
  t53:=Tryz.underlying230
  a53:=Tryz.isAgg230
  z53:=Tryz.sizeOf230
  v53:=Tryz.zeroValue230
  t171:=Tryz.underlying229
  a171:=Tryz.isAgg229
  z171:=Tryz.sizeOf229
  v171:=Tryz.zeroValue229
  t173:=Tryz.underlying233
  a173:=Tryz.isAgg233
  z173:=Tryz.sizeOf233
  v173:=Tryz.zeroValue233
  t212:=Tryz.underlying262
  a212:=Tryz.isAgg262
  z212:=Tryz.sizeOf262
  v212:=Tryz.zeroValue262
  t213:=Tryz.underlying264
  a213:=Tryz.isAgg264
  z213:=Tryz.sizeOf264
  t232:=Tryz.underlying305
  a232:=Tryz.isAgg305
  z232:=Tryz.sizeOf305
  v232:=Tryz.zeroValue305
  t233:=Tryz.underlying306
  a233:=Tryz.isAgg306
  z233:=Tryz.sizeOf306
  v233:=Tryz.zeroValue306
  g17:=by kernel_rfl
  g18:=by kernel_rfl
  g19:=by kernel_rfl
  i0:=by kernel_rfl
  i2:=by kernel_rfl
  i3:=by kernel_rfl
  i4:=by kernel_rfl
  i5:=by kernel_rfl
  i9:=by kernel_rfl
  i20:=by kernel_rfl
  i37:=by kernel_rfl
  i46:=by kernel_rfl
  i51:=by kernel_rfl
  i53:=by kernel_rfl
  i171:=by kernel_rfl
  i173:=by kernel_rfl
  i212:=by kernel_rfl
  i232:=by kernel_rfl
  i233:=by kernel_rfl
  m17:=by kernel_rfl
  m18:=by kernel_rfl
  m19:=by kernel_rfl}
open Go.RowKit Go.Sort Go.Lib in
theorem Tryz.strconv_FormatInt_10(n:Int)(h0: -9223372036854775808<=n)(h1:n<=9223372036854775807)(w:World)(htab:Lib.TabIs Tryz.prog w "internal/strconv.uint64pow10" .u64 Lib.pow10Tab):
    Calls Tryz.prog 114 #[.int .i64 n,.int .i64 10] w fun e w'=>e= .returned (.string ⟨(Lib.itoa n).toArray⟩)/\∃k os,w'=grow (w.drewN k) os:=Any.strconv_FormatInt_10 Tryz.laysM173 n h0 h1 w htab
def Tryz.laysC174_ren:Go.Shelf.Ren:=⟨fun |174=>269|247=>295|245=>296|287=>306|279=>307|280=>308|281=>309|282=>310|321=>321|322=>322|316=>323|171=>325|205=>324|243=>333|246=>163|283=>192|284=>193|285=>194|286=>195|129=>221|317=>220|318=>222|319=>223|320=>224|337=>259|338=>260|n=>n,fun |9=>9|3=>3|2=>2|75=>207|85=>290|4=>4|167=>323|5=>5|53=>230|175=>324|46=>265|168=>326|37=>202|0=>0|210=>336|21=>21|127=>235|145=>342|143=>340|171=>229|173=>233|212=>262|51=>263|20=>20|213=>264|232=>305|233=>306|80=>87|n=>n,fun |15=>4|16=>5|17=>0|18=>2|19=>3|n=>n⟩
theorem Tryz.laysC174:Go.Proofs.LaysC.n174 Tryz.prog Tryz.laysC174_ren:={
  mixed:=by kernel_rfl
  f129:=Tryz.func221.trans (congrArg some (by kernel_rfl))
  f171:=Tryz.func325.trans (congrArg some (by kernel_rfl))
  f174:=Tryz.func269.trans (congrArg some (by kernel_rfl))
  f205:=Tryz.func324.trans (congrArg some (by kernel_rfl))
  f243:=Tryz.func333.trans (congrArg some (by kernel_rfl))
  f245:=Tryz.func296.trans (congrArg some (by kernel_rfl))
  f246:=Tryz.func163.trans (congrArg some (by kernel_rfl))
  f247:=Tryz.func295.trans (congrArg some (by kernel_rfl))
  f279:=Tryz.func307.trans (congrArg some (by kernel_rfl))
  f280:=Tryz.func308.trans (congrArg some (by kernel_rfl))
  f281:=Tryz.func309.trans (congrArg some (by kernel_rfl))
  f282:=Tryz.func310.trans (congrArg some (by kernel_rfl))
  f283:=Tryz.func192.trans (congrArg some (by kernel_rfl))
  f284:=Tryz.func193.trans (congrArg some (by kernel_rfl))
  f285:=Tryz.func194.trans (congrArg some (by kernel_rfl))
  f286:=Tryz.func195.trans (congrArg some (by kernel_rfl))
  f287:=Tryz.func306.trans (congrArg some (by kernel_rfl))
  f316:=Tryz.func323.trans (congrArg some (by kernel_rfl))
  f317:=Tryz.func220.trans (congrArg some (by kernel_rfl))
  f318:=Tryz.func222.trans (congrArg some (by kernel_rfl))
  f319:=Tryz.func223.trans (congrArg some (by kernel_rfl))
  f320:=Tryz.func224.trans (congrArg some (by kernel_rfl))
  f321:=Tryz.func321.trans (congrArg some (by kernel_rfl))
  f322:=Tryz.func322.trans (congrArg some (by kernel_rfl))
  f337:=Tryz.func259.trans (congrArg some (by kernel_rfl))
  f338:=Tryz.func260.trans (congrArg some (by kernel_rfl))
  t0:=Tryz.underlying0
  a0:=Tryz.isAgg0
  z0:=Tryz.sizeOf0
  v0:=Tryz.zeroValue0
  t2:=Tryz.underlying2
  a2:=Tryz.isAgg2
  z2:=Tryz.sizeOf2
  v2:=Tryz.zeroValue2
  t3:=Tryz.underlying3
  a3:=Tryz.isAgg3
  z3:=Tryz.sizeOf3
  v3:=Tryz.zeroValue3
  t4:=Tryz.underlying4
  a4:=Tryz.isAgg4
  z4:=Tryz.sizeOf4
  v4:=Tryz.zeroValue4
  t5:=Tryz.underlying5
  a5:=Tryz.isAgg5
  z5:=Tryz.sizeOf5
  v5:=Tryz.zeroValue5
  t9:=Tryz.underlying9
  a9:=Tryz.isAgg9
  z9:=Tryz.sizeOf9
  v9:=Tryz.zeroValue9
  t20:=Tryz.underlying20
  a20:=Tryz.isAgg20
  z20:=Tryz.sizeOf20
  v20:=Tryz.zeroValue20
  t21:=Tryz.underlying21
  a21:=Tryz.isAgg21
  z21:=Tryz.sizeOf21
  v21:=Tryz.zeroValue21
  t37:=Tryz.underlying202
  a37:=Tryz.isAgg202
  z37:=Tryz.sizeOf202
  v37:=Tryz.zeroValue202
  t46:=Tryz.underlying265
  a46:=Tryz.isAgg265
  z46:=Tryz.sizeOf265
  v46:=Tryz.zeroValue265
  t51:=Tryz.underlying263
  a51:=Tryz.isAgg263
  z51:=Tryz.sizeOf263
  v51:=Tryz.zeroValue263
  t53:=Tryz.underlying230
  a53:=Tryz.isAgg230
  z53:=Tryz.sizeOf230
  v53:=Tryz.zeroValue230
  t75:=Tryz.underlying207
  a75:=Tryz.isAgg207
  z75:=Tryz.sizeOf207
  v75:=Tryz.zeroValue207
  t85:=Tryz.underlying290
  a85:=Tryz.isAgg290
  z85:=Tryz.sizeOf290
  v85:=Tryz.zeroValue290
  t127:=Tryz.underlying235
  a127:=Tryz.isAgg235
  z127:=Tryz.sizeOf235
  v127:=Tryz.zeroValue235
  t143:=Tryz.underlying340
  a143:=Tryz.isAgg340
  z143:=Tryz.sizeOf340
  v143:=Tryz.zeroValue340
  t145:=Tryz.underlying342
  a145:=Tryz.isAgg342
  z145:=Tryz.sizeOf342
  v145:=Tryz.zeroValue342
  t167:=Tryz.underlying323
  a167:=Tryz.isAgg323
  z167:=Tryz.sizeOf323
  v167:=Tryz.zeroValue323
  t168:=Tryz.underlying326
  a168:=Tryz.isAgg326
  z168:=Tryz.sizeOf326
  v168:=Tryz.zeroValue326
  t171:=Tryz.underlying229
  a171:=Tryz.isAgg229
  z171:=Tryz.sizeOf229
  v171:=Tryz.zeroValue229
  t173:=Tryz.underlying233
  a173:=Tryz.isAgg233
  z173:=Tryz.sizeOf233
  v173:=Tryz.zeroValue233
  t175:=Tryz.underlying324
  a175:=Tryz.isAgg324
  z175:=Tryz.sizeOf324
  v175:=Tryz.zeroValue324
  t210:=Tryz.underlying336
  a210:=Tryz.isAgg336
  z210:=Tryz.sizeOf336
  v210:=Tryz.zeroValue336
  t212:=Tryz.underlying262
  a212:=Tryz.isAgg262
  z212:=Tryz.sizeOf262
  v212:=Tryz.zeroValue262
  t213:=Tryz.underlying264
  a213:=Tryz.isAgg264
  z213:=Tryz.sizeOf264
  t232:=Tryz.underlying305
  a232:=Tryz.isAgg305
  z232:=Tryz.sizeOf305
  v232:=Tryz.zeroValue305
  t233:=Tryz.underlying306
  a233:=Tryz.isAgg306
  z233:=Tryz.sizeOf306
  v233:=Tryz.zeroValue306
  g15:=by kernel_rfl
  g16:=by kernel_rfl
  g17:=by kernel_rfl
  g18:=by kernel_rfl
  g19:=by kernel_rfl
  t80:=Tryz.underlying87
  a80:=Tryz.isAgg87
  z80:=Tryz.sizeOf87
  v80:=Tryz.zeroValue87
  i0:=by kernel_rfl
  i2:=by kernel_rfl
  i3:=by kernel_rfl
  i4:=by kernel_rfl
  i5:=by kernel_rfl
  i9:=by kernel_rfl
  i20:=by kernel_rfl
  i21:=by kernel_rfl
  i37:=by kernel_rfl
  i46:=by kernel_rfl
  i51:=by kernel_rfl
  i53:=by kernel_rfl
  i75:=by kernel_rfl
  i80:=by kernel_rfl
  i85:=by kernel_rfl
  i127:=by kernel_rfl
  i143:=by kernel_rfl
  i145:=by kernel_rfl
  i167:=by kernel_rfl
  i168:=by kernel_rfl
  i171:=by kernel_rfl
  i173:=by kernel_rfl
  i175:=by kernel_rfl
  i210:=by kernel_rfl
  i212:=by kernel_rfl
  i232:=by kernel_rfl
  i233:=by kernel_rfl
  m15:=by kernel_rfl
  m16:=by kernel_rfl
  m17:=by kernel_rfl
  m18:=by kernel_rfl
  m19:=by kernel_rfl
  c0:=by kernel_rfl
  c2:=by kernel_rfl
  c3:=by kernel_rfl
  c4:=by kernel_rfl
  c5:=by kernel_rfl
  c9:=by kernel_rfl
  c20:=by kernel_rfl
  c21:=by kernel_rfl
  c37:=by kernel_rfl
  c46:=by kernel_rfl
  c51:=by kernel_rfl
  c53:=by kernel_rfl
  c75:=by kernel_rfl
  c80:=by kernel_rfl
  c85:=by kernel_rfl
  c127:=by kernel_rfl
  c143:=by kernel_rfl
  c145:=by kernel_rfl
  c167:=by kernel_rfl
  c168:=by kernel_rfl
  c171:=by kernel_rfl
  c173:=by kernel_rfl
  c175:=by kernel_rfl
  c210:=by kernel_rfl
  c212:=by kernel_rfl
  c213:=by kernel_rfl
  c232:=by kernel_rfl
  c233:=by kernel_rfl}
open Go.RowKit in
theorem Tryz.strconv_ParseInt_10_at64_ok(s:ByteArray)(hmax:s.size<=9223372036854775806)(v:Int)(h:Lib.parseIntB 64 s.data.toList= .ok v)(w:World):
    Calls Tryz.prog 269 #[.string s,.int .i64 10,.int .i64 64] w fun e w'=>e= .returned (.tuple #[.int .i64 v,.nilIface])/\(w'=w\/∃t,w'=Lib.bytesWorld w 5 t):=Any.strconv_ParseInt_10_at64_ok Tryz.laysC174 s hmax v h w
open Go.RowKit in
theorem Tryz.strconv_ParseInt_10_at64_range_var(s:ByteArray)(hlim:s.size<=281474976710656)(h:Lib.parseIntB 64 s.data.toList= .range)(tp:TypeId)(p:Value)(w:World)(hvar:w.var? Tryz.prog "strconv.ErrRange" =some #[.iface tp p]):
    Calls Tryz.prog 269 #[.string s,.int .i64 10,.int .i64 64] w fun e w'=>∃N,e= .returned (.tuple #[.int .i64 (Lib.intSat 64 s.data.toList),.iface 326 (.pointer (some ⟨N,0,none⟩))])/\w.heap.size<=N/\w'.heap[N]?=some (.cells #[.string ⟨#[80,97,114,115,101,73,110,116]⟩,.string s,.iface tp p] 336 (0,0))/\Below w.heap.size w w':=Any.strconv_ParseInt_10_at64_range_var Tryz.laysC174 s hlim h tp p w hvar
def Tryz.lays143_ren:Go.Shelf.Ren:=⟨fun |143=>200|219=>228|217=>262|225=>263|224=>264|267=>265|266=>284|314=>285|n=>n,fun |9=>9|3=>3|4=>4|5=>5|46=>265|146=>312|51=>263|n=>n,fun |1=>1|n=>n⟩
theorem Tryz.lays143:Go.Proofs.Lays.n143 Tryz.prog Tryz.lays143_ren:={
  mixed:=by kernel_rfl
  f143:=Tryz.func200.trans (congrArg some (by kernel_rfl))
  f217:=Tryz.func262.trans (congrArg some (by kernel_rfl))
  f219:=Tryz.func228.trans (congrArg some (by kernel_rfl))
  f224:=Tryz.func264.trans (congrArg some (by kernel_rfl))
  f225:=Tryz.func263.trans (congrArg some (by kernel_rfl))
  f266:=Tryz.func284.trans (congrArg some (by kernel_rfl))
  f267:=Tryz.func265.trans (congrArg some (by kernel_rfl))
  f314:=Tryz.func285.trans (congrArg some (by kernel_rfl))
  t3:=Tryz.underlying3
  a3:=Tryz.isAgg3
  z3:=Tryz.sizeOf3
  v3:=Tryz.zeroValue3
  t4:=Tryz.underlying4
  a4:=Tryz.isAgg4
  z4:=Tryz.sizeOf4
  v4:=Tryz.zeroValue4
  t5:=Tryz.underlying5
  a5:=Tryz.isAgg5
  z5:=Tryz.sizeOf5
  v5:=Tryz.zeroValue5
  t9:=Tryz.underlying9
  a9:=Tryz.isAgg9
  z9:=Tryz.sizeOf9
  v9:=Tryz.zeroValue9
  t46:=Tryz.underlying265
  a46:=Tryz.isAgg265
  z46:=Tryz.sizeOf265
  v46:=Tryz.zeroValue265
  t51:=Tryz.underlying263
  a51:=Tryz.isAgg263
  z51:=Tryz.sizeOf263
  v51:=Tryz.zeroValue263
  t146:=Tryz.underlying312
  a146:=Tryz.isAgg312
  z146:=Tryz.sizeOf312
  v146:=Tryz.zeroValue312
  g1:=by kernel_rfl}
open Go.RowKit Go.Lib in
theorem Tryz.strings_Index_one(s:ByteArray)(c:UInt8)(w:World):
    Calls Tryz.prog 200 #[.string s,.string ⟨#[c]⟩] w fun e w'=>e= .returned (.int .i64 (Lib.indexByte s.data.toList c))/\w'=w:=Any.strings_Index_one Tryz.lays143 s c w
def Tryz.lays99_ren:Go.Shelf.Ren:=⟨fun |99=>199|206=>213|n=>n,fun |9=>9|4=>4|3=>3|n=>n,fun |n=>n⟩
theorem Tryz.lays99:Go.Proofs.Lays.n99 Tryz.prog Tryz.lays99_ren:={
  mixed:=by kernel_rfl
  f99:=Tryz.func199.trans (congrArg some (by kernel_rfl))
  f206:=Tryz.func213.trans (congrArg some (by kernel_rfl))
  t3:=Tryz.underlying3
  a3:=Tryz.isAgg3
  z3:=Tryz.sizeOf3
  v3:=Tryz.zeroValue3
  t4:=Tryz.underlying4
  a4:=Tryz.isAgg4
  z4:=Tryz.sizeOf4
  v4:=Tryz.zeroValue4
  t9:=Tryz.underlying9
  a9:=Tryz.isAgg9
  z9:=Tryz.sizeOf9
  v9:=Tryz.zeroValue9}
open Go.RowKit Go.Lib in
theorem Tryz.strings_HasPrefix(s p:ByteArray)(w:World):
    Calls Tryz.prog 199 #[.string s,.string p] w fun e w'=>e= .returned (.bool (Lib.hasPrefix s.data.toList p.data.toList))/\w'=w:=Any.strings_HasPrefix Tryz.lays99 s p w
def Tryz.lays101_ren:Go.Shelf.Ren:=⟨fun |101=>143|208=>184|206=>213|n=>n,fun |9=>9|4=>4|3=>3|n=>n,fun |n=>n⟩
theorem Tryz.lays101:Go.Proofs.Lays.n101 Tryz.prog Tryz.lays101_ren:={
  mixed:=by kernel_rfl
  f101:=Tryz.func143.trans (congrArg some (by kernel_rfl))
  f206:=Tryz.func213.trans (congrArg some (by kernel_rfl))
  f208:=Tryz.func184.trans (congrArg some (by kernel_rfl))
  t3:=Tryz.underlying3
  a3:=Tryz.isAgg3
  z3:=Tryz.sizeOf3
  v3:=Tryz.zeroValue3
  t4:=Tryz.underlying4
  a4:=Tryz.isAgg4
  z4:=Tryz.sizeOf4
  v4:=Tryz.zeroValue4
  t9:=Tryz.underlying9
  a9:=Tryz.isAgg9
  z9:=Tryz.sizeOf9
  v9:=Tryz.zeroValue9}
open Go.RowKit Go.Lib in
theorem Tryz.strings_TrimPrefix(s p:ByteArray)(w:World):
    Calls Tryz.prog 143 #[.string s,.string p] w fun e w'=>e= .returned (.string ⟨(Lib.trimPrefix s.data.toList p.data.toList).toArray⟩)/\w'=w:=Any.strings_TrimPrefix Tryz.lays101 s p w
def Tryz.lays155_ren:Go.Shelf.Ren:=⟨fun |155=>292|154=>305|138=>319|165=>164|143=>200|166=>165|197=>320|169=>166|195=>330|218=>331|240=>196|241=>197|219=>228|260=>332|276=>225|277=>226|217=>262|225=>263|224=>264|267=>265|266=>284|314=>285|n=>n,fun |9=>9|3=>3|4=>4|72=>204|0=>0|76=>208|105=>332|21=>21|5=>5|70=>201|20=>20|37=>202|75=>207|127=>235|164=>267|46=>265|119=>343|139=>346|138=>345|146=>312|51=>263|80=>87|n=>n,fun |1=>1|3=>6|4=>7|n=>n⟩
theorem Tryz.lays155:Go.Proofs.Lays.n155 Tryz.prog Tryz.lays155_ren:={
  mixed:=by kernel_rfl
  f138:=Tryz.func319.trans (congrArg some (by kernel_rfl))
  f143:=Tryz.func200.trans (congrArg some (by kernel_rfl))
  f154:=Tryz.func305.trans (congrArg some (by kernel_rfl))
  f155:=Tryz.func292.trans (congrArg some (by kernel_rfl))
  f165:=Tryz.func164.trans (congrArg some (by kernel_rfl))
  f166:=Tryz.func165.trans (congrArg some (by kernel_rfl))
  f169:=Tryz.func166.trans (congrArg some (by kernel_rfl))
  f195:=Tryz.func330.trans (congrArg some (by kernel_rfl))
  f197:=Tryz.func320.trans (congrArg some (by kernel_rfl))
  f217:=Tryz.func262.trans (congrArg some (by kernel_rfl))
  f218:=Tryz.func331.trans (congrArg some (by kernel_rfl))
  f219:=Tryz.func228.trans (congrArg some (by kernel_rfl))
  f224:=Tryz.func264.trans (congrArg some (by kernel_rfl))
  f225:=Tryz.func263.trans (congrArg some (by kernel_rfl))
  f240:=Tryz.func196.trans (congrArg some (by kernel_rfl))
  f241:=Tryz.func197.trans (congrArg some (by kernel_rfl))
  f260:=Tryz.func332.trans (congrArg some (by kernel_rfl))
  f266:=Tryz.func284.trans (congrArg some (by kernel_rfl))
  f267:=Tryz.func265.trans (congrArg some (by kernel_rfl))
  f276:=Tryz.func225.trans (congrArg some (by kernel_rfl))
  f277:=Tryz.func226.trans (congrArg some (by kernel_rfl))
  f314:=Tryz.func285.trans (congrArg some (by kernel_rfl))
  t0:=Tryz.underlying0
  a0:=Tryz.isAgg0
  z0:=Tryz.sizeOf0
  v0:=Tryz.zeroValue0
  t3:=Tryz.underlying3
  a3:=Tryz.isAgg3
  z3:=Tryz.sizeOf3
  v3:=Tryz.zeroValue3
  t4:=Tryz.underlying4
  a4:=Tryz.isAgg4
  z4:=Tryz.sizeOf4
  v4:=Tryz.zeroValue4
  t5:=Tryz.underlying5
  a5:=Tryz.isAgg5
  z5:=Tryz.sizeOf5
  v5:=Tryz.zeroValue5
  t9:=Tryz.underlying9
  a9:=Tryz.isAgg9
  z9:=Tryz.sizeOf9
  v9:=Tryz.zeroValue9
  t20:=Tryz.underlying20
  a20:=Tryz.isAgg20
  z20:=Tryz.sizeOf20
  v20:=Tryz.zeroValue20
  t21:=Tryz.underlying21
  a21:=Tryz.isAgg21
  z21:=Tryz.sizeOf21
  v21:=Tryz.zeroValue21
  t37:=Tryz.underlying202
  a37:=Tryz.isAgg202
  z37:=Tryz.sizeOf202
  v37:=Tryz.zeroValue202
  t46:=Tryz.underlying265
  a46:=Tryz.isAgg265
  z46:=Tryz.sizeOf265
  v46:=Tryz.zeroValue265
  t51:=Tryz.underlying263
  a51:=Tryz.isAgg263
  z51:=Tryz.sizeOf263
  v51:=Tryz.zeroValue263
  t70:=Tryz.underlying201
  a70:=Tryz.isAgg201
  z70:=Tryz.sizeOf201
  v70:=Tryz.zeroValue201
  t72:=Tryz.underlying204
  a72:=Tryz.isAgg204
  z72:=Tryz.sizeOf204
  v72:=Tryz.zeroValue204
  t75:=Tryz.underlying207
  a75:=Tryz.isAgg207
  z75:=Tryz.sizeOf207
  v75:=Tryz.zeroValue207
  t76:=Tryz.underlying208
  a76:=Tryz.isAgg208
  z76:=Tryz.sizeOf208
  v76:=Tryz.zeroValue208
  t105:=Tryz.underlying332
  a105:=Tryz.isAgg332
  z105:=Tryz.sizeOf332
  v105:=Tryz.zeroValue332
  t119:=Tryz.underlying343
  a119:=Tryz.isAgg343
  z119:=Tryz.sizeOf343
  t127:=Tryz.underlying235
  a127:=Tryz.isAgg235
  z127:=Tryz.sizeOf235
  v127:=Tryz.zeroValue235
  t138:=Tryz.underlying345
  a138:=Tryz.isAgg345
  z138:=Tryz.sizeOf345
  v138:=Tryz.zeroValue345
  t139:=Tryz.underlying346
  a139:=Tryz.isAgg346
  z139:=Tryz.sizeOf346
  v139:=Tryz.zeroValue346
  t146:=Tryz.underlying312
  a146:=Tryz.isAgg312
  z146:=Tryz.sizeOf312
  v146:=Tryz.zeroValue312
  t164:=Tryz.underlying267
  a164:=Tryz.isAgg267
  z164:=Tryz.sizeOf267
  v164:=Tryz.zeroValue267
  g1:=by kernel_rfl
  g3:=by kernel_rfl
  g4:=by kernel_rfl}
theorem Tryz.Builder_Extra_155:Builder.Extra Tryz.prog Tryz.lays155_ren:={
  sizeBuilder:=by kernel_rfl
  liesBuilder:=by kernel_rfl
  t5:=Tryz.underlying5
  a5:=Tryz.isAgg5
  z5:=Tryz.sizeOf5
  v5:=Tryz.zeroValue5
  infoByte:=by kernel_rfl
  cellsByte:=by kernel_rfl
  sizeByte:=by kernel_rfl
  neB5:=by decide}
open Go.RowKit Go.Lib in
theorem Tryz.strings_ReplaceAll(s old new:ByteArray)(m:Int)(w:World)(hs:s.size<4294967281)(hm:w.cell? ⟨1,0,none⟩=some (.int .i64 m))(h1:1<=old.size)(hlen:s.size+Lib.countB s old * new.size<=140737488355328):
    Calls Tryz.prog 292 #[.string s,.string old,.string new] w fun e w'=>
      e= .returned (.string ⟨(Lib.replaceAll s.data.toList old.data.toList new.data.toList).toArray⟩)/\Below w.heap.size w w':=Any.strings_ReplaceAll Tryz.lays155 Tryz.Builder_Extra_155 s old new m w hs hm h1 hlen
open Go.RowKit Go.Lib in
def Tryz.lays153_ren:Go.Shelf.Ren:=⟨fun |153=>261|152=>280|226=>281|227=>282|228=>283|137=>299|119=>303|224=>264|225=>263|217=>262|266=>284|n=>n,fun |9=>9|3=>3|4=>4|5=>5|21=>21|117=>310|116=>309|0=>0|46=>265|124=>321|n=>n,fun |n=>n⟩
theorem Tryz.lays153:Go.Proofs.Lays.n153 Tryz.prog Tryz.lays153_ren:={
  mixed:=by kernel_rfl
  f119:=Tryz.func303.trans (congrArg some (by kernel_rfl))
  f137:=Tryz.func299.trans (congrArg some (by kernel_rfl))
  f152:=Tryz.func280.trans (congrArg some (by kernel_rfl))
  f153:=Tryz.func261.trans (congrArg some (by kernel_rfl))
  f217:=Tryz.func262.trans (congrArg some (by kernel_rfl))
  f224:=Tryz.func264.trans (congrArg some (by kernel_rfl))
  f225:=Tryz.func263.trans (congrArg some (by kernel_rfl))
  f226:=Tryz.func281.trans (congrArg some (by kernel_rfl))
  f227:=Tryz.func282.trans (congrArg some (by kernel_rfl))
  f228:=Tryz.func283.trans (congrArg some (by kernel_rfl))
  f266:=Tryz.func284.trans (congrArg some (by kernel_rfl))
  t0:=Tryz.underlying0
  a0:=Tryz.isAgg0
  z0:=Tryz.sizeOf0
  v0:=Tryz.zeroValue0
  t3:=Tryz.underlying3
  a3:=Tryz.isAgg3
  z3:=Tryz.sizeOf3
  v3:=Tryz.zeroValue3
  t4:=Tryz.underlying4
  a4:=Tryz.isAgg4
  z4:=Tryz.sizeOf4
  v4:=Tryz.zeroValue4
  t5:=Tryz.underlying5
  a5:=Tryz.isAgg5
  z5:=Tryz.sizeOf5
  v5:=Tryz.zeroValue5
  t9:=Tryz.underlying9
  a9:=Tryz.isAgg9
  z9:=Tryz.sizeOf9
  v9:=Tryz.zeroValue9
  t21:=Tryz.underlying21
  a21:=Tryz.isAgg21
  z21:=Tryz.sizeOf21
  v21:=Tryz.zeroValue21
  t46:=Tryz.underlying265
  a46:=Tryz.isAgg265
  z46:=Tryz.sizeOf265
  v46:=Tryz.zeroValue265
  t116:=Tryz.underlying309
  a116:=Tryz.isAgg309
  z116:=Tryz.sizeOf309
  t117:=Tryz.underlying310
  a117:=Tryz.isAgg310
  z117:=Tryz.sizeOf310
  v117:=Tryz.zeroValue310
  t124:=Tryz.underlying321
  a124:=Tryz.isAgg321
  z124:=Tryz.sizeOf321
  v124:=Tryz.zeroValue321}
open Go.RowKit Go.Lib in
theorem Tryz.strings_IndexAny_short(s chars:ByteArray)(w:World)(h2:2<=chars.size)(h8:s.size<=8)(hascii:∀(j:Nat) b,s.data.toList[j]?=some b->b.toNat<128):
    Calls Tryz.prog 261 #[.string s,.string chars] w fun e w'=>e= .returned (.int .i64 (Lib.indexAny s.data.toList chars.data.toList))/\∃pos,w'=w.iter s pos:=Any.strings_IndexAny_short Tryz.lays153 s chars w h2 h8 hascii
def Tryz.lays110_ren:Go.Shelf.Ren:=⟨fun |110=>205|109=>240|n=>n,fun |31=>86|9=>9|4=>4|3=>3|0=>0|n=>n,fun |n=>n⟩
theorem Tryz.lays110:Go.Proofs.Lays.n110 Tryz.prog Tryz.lays110_ren:={
  mixed:=by kernel_rfl
  f109:=Tryz.func240.trans (congrArg some (by kernel_rfl))
  f110:=Tryz.func205.trans (congrArg some (by kernel_rfl))
  t0:=Tryz.underlying0
  a0:=Tryz.isAgg0
  z0:=Tryz.sizeOf0
  v0:=Tryz.zeroValue0
  t3:=Tryz.underlying3
  a3:=Tryz.isAgg3
  z3:=Tryz.sizeOf3
  v3:=Tryz.zeroValue3
  t4:=Tryz.underlying4
  a4:=Tryz.isAgg4
  z4:=Tryz.sizeOf4
  v4:=Tryz.zeroValue4
  t9:=Tryz.underlying9
  a9:=Tryz.isAgg9
  z9:=Tryz.sizeOf9
  v9:=Tryz.zeroValue9
  t31:=Tryz.underlying86
  a31:=Tryz.isAgg86
  z31:=Tryz.sizeOf86
  v31:=Tryz.zeroValue86}
open Go.Lib in
theorem Tryz.slices_Contains_string(b off n c:Nat)(zs:List ByteArray)(x:ByteArray)(w:World)(hz:n<=zs.length)(hbig:n<=9223372036854775807)(hc:∀j,j<zs.length->w.cell? ⟨b,off+j,none⟩=some (.string (zs.getD j ByteArray.empty))):
    Calls Tryz.prog 205 #[.slice (some ⟨b,off,none⟩) n c,.string x] w fun e w'=>e= .returned (.bool (Lib.containsS (zs.take n) x))/\w'=w:=Any.slices_Contains_string Tryz.lays110 b off n c zs x w hz hbig hc
def Tryz.laysSlH6_f266_ren:Go.Shelf.Ren:=⟨fun |6=>266|n=>n,fun |22=>86|23=>9|25=>45|3=>3|0=>0|4=>4|n=>n,fun |n=>n⟩
theorem Tryz.laysSlH6_f266:Go.Proofs.SlLaysH.n6 Tryz.prog Tryz.laysSlH6_f266_ren:={
  mixed:=by kernel_rfl
  f6:=⟨Tryz.f266.name,by decide,Tryz.func266.trans (congrArg some (by kernel_rfl))⟩
  t0:=Tryz.underlying0
  a0:=Tryz.isAgg0
  z0:=Tryz.sizeOf0
  v0:=Tryz.zeroValue0
  t3:=Tryz.underlying3
  a3:=Tryz.isAgg3
  z3:=Tryz.sizeOf3
  v3:=Tryz.zeroValue3
  t4:=Tryz.underlying4
  a4:=Tryz.isAgg4
  z4:=Tryz.sizeOf4
  v4:=Tryz.zeroValue4
  t22:=Tryz.underlying86
  a22:=Tryz.isAgg86
  z22:=Tryz.sizeOf86
  v22:=Tryz.zeroValue86
  a23:=Tryz.isAgg9
  z23:=Tryz.sizeOf9
  t25:=Tryz.underlying45
  a25:=Tryz.isAgg45
  z25:=Tryz.sizeOf45
  v25:=Tryz.zeroValue45}
open Go.RowKit Go.Lib in
theorem Tryz.slices_IndexFunc{α:Type}[Inhabited α](enc:α->Value)(p:α->Bool)(g:Nat)(lb:Array Value)(eg:∀args w,(callFunc g args).run Tryz.prog w= .ok (.enter g args) w)(b off n c:Nat)(zs:List α)(w:World)(hp:PredAt Tryz.prog g lb enc p w)(hz:n<=zs.length)(hbig:n<=9223372036854775807)(hc:∀j,j<zs.length->w.cell? ⟨b,off+j,none⟩=some (enc zs[j]!)):
    Calls Tryz.prog 266 #[.slice (some ⟨b,off,none⟩) n c,.func (.func g) #[] lb] w fun e w'=>e= .returned (.int .i64 (Lib.idxBy (fun _ y=>p y) (zs.take n) default))/\∃q,w'=w.drewN q:=AnyE.slices_IndexFunc Tryz.laysSlH6_f266 enc p g lb eg b off n c zs w hp hz hbig hc
open Go.RowKit in
theorem Tryz.strings_Trim_laid(s cutset:ByteArray)(w:World)(hs:s.size<=9223372036854775807)(hcs:cutset.size<4294967281)(hascii:∀(j:Nat) (b:UInt8),cutset.data.toList[j]?=some b->b.toNat<128):
    Calls Tryz.prog 298 #[.string s,.string cutset] w fun e w'=>e= .returned (.string ⟨(Lib.trimS s.data.toList cutset.data.toList).toArray⟩)/\Below w.heap.size w w':=Any.strings_Trim_laid Tryz.lays160 (by kernel_rfl) s cutset w hs hcs hascii
def Tryz.lays167_ren:Go.Shelf.Ren:=⟨fun |167=>294|240=>196|276=>225|n=>n,fun |0=>0|4=>4|5=>5|9=>9|20=>20|37=>202|70=>201|72=>204|75=>207|80=>87|164=>267|n=>n,fun |n=>n⟩
theorem Tryz.lays167:Go.Proofs.Lays.n167 Tryz.prog Tryz.lays167_ren:={
  mixed:=by kernel_rfl
  f167:=Tryz.func294.trans (congrArg some (by kernel_rfl))
  f240:=Tryz.func196.trans (congrArg some (by kernel_rfl))
  f276:=Tryz.func225.trans (congrArg some (by kernel_rfl))
  t0:=Tryz.underlying0
  a0:=Tryz.isAgg0
  z0:=Tryz.sizeOf0
  v0:=Tryz.zeroValue0
  t4:=Tryz.underlying4
  a4:=Tryz.isAgg4
  z4:=Tryz.sizeOf4
  v4:=Tryz.zeroValue4
  t5:=Tryz.underlying5
  a5:=Tryz.isAgg5
  z5:=Tryz.sizeOf5
  v5:=Tryz.zeroValue5
  t9:=Tryz.underlying9
  a9:=Tryz.isAgg9
  z9:=Tryz.sizeOf9
  v9:=Tryz.zeroValue9
  t20:=Tryz.underlying20
  a20:=Tryz.isAgg20
  z20:=Tryz.sizeOf20
  v20:=Tryz.zeroValue20
  t37:=Tryz.underlying202
  a37:=Tryz.isAgg202
  z37:=Tryz.sizeOf202
  v37:=Tryz.zeroValue202
  t70:=Tryz.underlying201
  a70:=Tryz.isAgg201
  z70:=Tryz.sizeOf201
  v70:=Tryz.zeroValue201
  t72:=Tryz.underlying204
  a72:=Tryz.isAgg204
  z72:=Tryz.sizeOf204
  v72:=Tryz.zeroValue204
  t75:=Tryz.underlying207
  a75:=Tryz.isAgg207
  z75:=Tryz.sizeOf207
  v75:=Tryz.zeroValue207
  t164:=Tryz.underlying267
  a164:=Tryz.isAgg267
  z164:=Tryz.sizeOf267
  v164:=Tryz.zeroValue267}
theorem Tryz.Builder_Extra_167:Builder.Extra Tryz.prog Tryz.lays167_ren:={
  sizeBuilder:=by kernel_rfl
  liesBuilder:=by kernel_rfl
  t5:=Tryz.underlying5
  a5:=Tryz.isAgg5
  z5:=Tryz.sizeOf5
  v5:=Tryz.zeroValue5
  infoByte:=by kernel_rfl
  cellsByte:=by kernel_rfl
  sizeByte:=by kernel_rfl
  neB5:=by decide}
end Go.Proofs
