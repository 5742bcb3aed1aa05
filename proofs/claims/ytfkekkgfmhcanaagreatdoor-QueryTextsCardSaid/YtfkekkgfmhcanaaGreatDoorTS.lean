/- The shelf's contracts. -/
import Derived.Shelf.Strings.Builder1
import Derived.Shelf.Strings.Builder2
import Derived.Shelf.Strings.OnBuilder
import Derived.Shelf.Strings.Trim
import Derived.Shelf.Small.Utf8
import Derived.Shelf.Small.Strs
import Derived.Shelf.Small.Wraps
import Derived.Shelf.Strings.BuilderF
import Derived.Shelf.Strings.BuilderK
import Derived.Shelf.Utf8.RuneCount
import Derived.Shelf.Strings.Builder2Cap
import Derived.Shelf.Strconv.Itoa0
import Derived.Shelf.Strconv.Itoa1
import Derived.Shelf.LaysM
import Derived.Shelf.Strconv.Itoa2
import Derived.Shelf.Strconv.Itoa3
import Derived.Shelf.Strconv.Itoa4
import Derived.Shelf.Strconv.ParseIntEmpty
import Derived.Shelf.Strconv.Clone
import Derived.Shelf.Strconv.SyntaxError
import Derived.Shelf.LaysC
import Derived.Shelf.Strconv.ToError
import Derived.Shelf.Strconv.Lower
import Derived.Shelf.Strconv.ParseUint10
import Derived.Shelf.Strconv.ParseUint10Empty
import Derived.Shelf.Strconv.ParseUint10Any
import Derived.Shelf.Strconv.ParseInt10
import Derived.Shelf.Strconv.RangeError
import Derived.Shelf.Strconv.ToErrorRange
import Derived.Shelf.Strconv.ParseUintEmpty
import Derived.Shelf.Strconv.ParseUint10b64
import Derived.Shelf.Strconv.ParseUint10b32
import Derived.Shelf.Strconv.ParseUint10b16
import Derived.Shelf.Strconv.ParseUint10b8
import Derived.Shelf.Strconv.ParseUint10At
import Derived.Shelf.Strconv.ParseInt10At64
import Derived.Shelf.Strconv.ParseInt10At32
import Derived.Shelf.Strconv.ParseInt10At16
import Derived.Shelf.Strconv.ParseInt10At8
import Derived.Shelf.Strconv.ParseInt10All
import Derived.Shelf.Strconv.ParseIntPublic10
import Derived.Shelf.Strconv.ErrVarParseInt
import Derived.Shelf.Strings.Search1
import Derived.Shelf.Strings.Search2
import Derived.Shelf.Strings.Search3
import Derived.Shelf.Strings.Count
import Derived.Shelf.Strings.Shaped
import Derived.Shelf.Strings.Prefix
import Derived.Shelf.Strings.Split
import Derived.Shelf.Strings.Replace
import Derived.Shelf.Strings.SplitShaped
import Derived.Shelf.Strings.Runes
import Derived.Shelf.Strings.RuneCount
import Derived.Shelf.Strings.IndexAny
import Derived.Shelf.Strings.AsciiSet
import Derived.Shelf.Strings.IndexAnyAll
import Derived.Shelf.Unicode.DecodeSlow
import Derived.Shelf.Strings.BuilderCap
import Derived.Shelf.Slices.Turned
import Derived.Ground.SlgfProg
import Derived.Shelf.SlicesE.IndexFunc
import Derived.Shelf.Strings.SlTrimAscii
import Derived.Test.YtfkekkgfmhcanaaGreatDoorProg
namespace Go.Proofs
open Tryz
theorem fc{P:Prop}(h:P:=by kernel_rfl):P:=h
theorem fd{α:Type}{a b:α}(h:a=b:=by kernel_rfl):some a=some b:=congrArg some h
open Go.Shelf
def Tryz.lays169_ren:Go.Shelf.Ren:=⟨fun |169=>161|n=>n,fun |70=>197|9=>9|0=>0|72=>200|37=>198|127=>231|3=>3|5=>5|n=>n,fun |n=>n⟩
theorem Tryz.lays169:Go.Proofs.Lays.n169 prog Tryz.lays169_ren:=⟨fc,func161.trans fd,underlying0,isAgg0,sizeOf0,zeroValue0,underlying3,isAgg3,sizeOf3,zeroValue3,underlying9,isAgg9,sizeOf9,zeroValue9,underlying198,isAgg198,sizeOf198,zeroValue198,underlying197,isAgg197,sizeOf197,zeroValue197,underlying200,isAgg200,sizeOf200,zeroValue200,underlying231,isAgg231,sizeOf231,zeroValue231⟩
theorem Tryz.Builder_Extra_169:Builder.Extra prog Tryz.lays169_ren:={
  sizeBuilder:=fc
  liesBuilder:=fc
  t5:=underlying5
  a5:=isAgg5
  z5:=sizeOf5
  v5:=zeroValue5
  infoByte:=fc
  cellsByte:=fc
  sizeByte:=fc
  neB5:=by decide}
open Go.RowKit in
theorem Tryz.Builder_String_any(B b:Nat)(l:List UInt8)(w:World)(h:Lib.IsBuilder 200 5 B b (Lib.byteCells l) w)(hBw:B<=w.heap.size):
    Calls prog 161 #[.pointer (some ⟨b,0,none⟩)] w fun e w'=>e= .returned (.string ⟨l.toArray⟩)/\Below B w w':=Any.Builder_String_any Tryz.lays169 Tryz.Builder_Extra_169 B b l w h hBw
def Tryz.lays156_ren:Go.Shelf.Ren:=⟨fun |156=>110|165=>159|166=>160|169=>161|240=>192|241=>193|276=>221|277=>222|n=>n,fun |31=>82|9=>9|3=>3|4=>4|0=>0|20=>20|72=>200|76=>204|70=>197|37=>198|75=>203|127=>231|164=>263|5=>5|80=>83|n=>n,fun |n=>n⟩
theorem Tryz.lays156:Go.Proofs.Lays.n156 prog Tryz.lays156_ren:=⟨fc,func110.trans fd,func159.trans fd,func160.trans fd,func161.trans fd,func192.trans fd,func193.trans fd,func221.trans fd,func222.trans fd,underlying0,isAgg0,sizeOf0,zeroValue0,underlying3,isAgg3,sizeOf3,zeroValue3,underlying4,isAgg4,sizeOf4,zeroValue4,underlying9,isAgg9,sizeOf9,zeroValue9,underlying20,isAgg20,sizeOf20,zeroValue20,underlying82,isAgg82,sizeOf82,zeroValue82,underlying198,isAgg198,sizeOf198,zeroValue198,underlying197,isAgg197,sizeOf197,zeroValue197,underlying200,isAgg200,sizeOf200,zeroValue200,underlying203,isAgg203,sizeOf203,zeroValue203,underlying204,isAgg204,sizeOf204,zeroValue204,underlying231,isAgg231,sizeOf231,zeroValue231,underlying263,isAgg263,sizeOf263,zeroValue263⟩
theorem Tryz.Builder_Extra_156:Builder.Extra prog Tryz.lays156_ren:={
  sizeBuilder:=fc
  liesBuilder:=fc
  t5:=underlying5
  a5:=isAgg5
  z5:=sizeOf5
  v5:=zeroValue5
  infoByte:=fc
  cellsByte:=fc
  sizeByte:=fc
  neB5:=by decide}
open Go.RowKit in
theorem Tryz.strings_Join(bk o c:Nat)(xs:List ByteArray)(sep:ByteArray)(w:World)(hcells:∀(j:Nat) x,xs[j]?=some x->w.cell? ⟨bk,o+j,none⟩=some (.string x))(hbk:bk<w.heap.size)(hN:xs.length<=140737488355328)(hcap:xs.length<=c)(hlen:(Lib.join (xs.map (·.data.toList)) sep.data.toList).length<=140737488355328):
    Calls prog 110 #[.slice (some ⟨bk,o,none⟩) xs.length c,.string sep] w fun e w'=>e= .returned (.string ⟨(Lib.join (xs.map (·.data.toList)) sep.data.toList).toArray⟩)/\Below w.heap.size w w':=Any.strings_Join Tryz.lays156 Tryz.Builder_Extra_156 bk o c xs sep w hcells hbk hN hcap hlen
def Tryz.lays160_ren:Go.Shelf.Ren:=⟨fun |160=>294|232=>308|231=>307|227=>278|234=>310|233=>309|236=>312|235=>311|228=>279|271=>323|151=>322|197=>316|120=>330|152=>276|260=>328|137=>295|119=>299|224=>260|225=>259|217=>258|266=>280|n=>n,fun |9=>9|4=>4|3=>3|5=>5|117=>306|116=>305|0=>0|124=>317|21=>21|105=>328|46=>261|119=>339|139=>342|138=>341|n=>n,fun |3=>6|4=>7|n=>n⟩
theorem Tryz.lays160:Go.Proofs.Lays.n160 prog Tryz.lays160_ren:=⟨fc,func299.trans fd,func330.trans fd,func295.trans fd,func322.trans fd,func276.trans fd,func294.trans fd,func316.trans fd,func258.trans fd,func260.trans fd,func259.trans fd,func278.trans fd,func279.trans fd,func307.trans fd,func308.trans fd,func309.trans fd,func310.trans fd,func311.trans fd,func312.trans fd,func328.trans fd,func280.trans fd,func323.trans fd,underlying0,isAgg0,sizeOf0,zeroValue0,underlying3,isAgg3,sizeOf3,zeroValue3,underlying4,isAgg4,sizeOf4,zeroValue4,underlying5,isAgg5,sizeOf5,zeroValue5,underlying9,isAgg9,sizeOf9,zeroValue9,underlying21,isAgg21,sizeOf21,zeroValue21,underlying261,isAgg261,sizeOf261,zeroValue261,underlying328,isAgg328,sizeOf328,zeroValue328,underlying305,isAgg305,sizeOf305,underlying306,isAgg306,sizeOf306,zeroValue306,underlying339,isAgg339,sizeOf339,underlying317,isAgg317,sizeOf317,zeroValue317,underlying341,isAgg341,sizeOf341,zeroValue341,underlying342,isAgg342,sizeOf342,zeroValue342,fc,fc⟩
def Tryz.lays137_ren:Go.Shelf.Ren:=⟨fun |137=>295|217=>258|266=>280|n=>n,fun |9=>9|5=>5|3=>3|n=>n,fun |n=>n⟩
theorem Tryz.lays137:Go.Proofs.Lays.n137 prog Tryz.lays137_ren:=⟨fc,func295.trans fd,func258.trans fd,func280.trans fd,underlying3,isAgg3,sizeOf3,zeroValue3,underlying5,isAgg5,sizeOf5,zeroValue5,underlying9,isAgg9,sizeOf9,zeroValue9⟩
open Go.RowKit in
theorem Tryz.strings_IndexByte(s:ByteArray)(c:Int)(w:World):
    Calls prog 295 #[.string s,.int .u8 c] w fun e w'=>e= .returned (.int .i64 (Lib.indexByte s.data.toList c.toNat.toUInt8))/\w'=w:=Any.strings_IndexByte Tryz.lays137 s c w
def Tryz.lays103_ren:Go.Shelf.Ren:=⟨fun |103=>266|210=>293|206=>209|n=>n,fun |9=>9|4=>4|24=>151|3=>3|n=>n,fun |n=>n⟩
theorem Tryz.lays103:Go.Proofs.Lays.n103 prog Tryz.lays103_ren:=⟨fc,func266.trans fd,func209.trans fd,func293.trans fd,underlying3,isAgg3,sizeOf3,zeroValue3,underlying4,isAgg4,sizeOf4,zeroValue4,underlying9,isAgg9,sizeOf9,zeroValue9,underlying151,isAgg151,sizeOf151,zeroValue151⟩
open Go.RowKit in
theorem Tryz.strings_CutPrefix(s p:ByteArray)(w:World):
    Calls prog 266 #[.string s,.string p] w fun e w'=>e= .returned (.tuple #[.string ⟨(Lib.trimPrefix s.data.toList p.data.toList).toArray⟩,.bool (Lib.hasPrefix s.data.toList p.data.toList)])/\w'=w:=Any.strings_CutPrefix Tryz.lays103 s p w
def Tryz.lays104_ren:Go.Shelf.Ren:=⟨fun |104=>313|211=>324|207=>331|n=>n,fun |9=>9|4=>4|24=>151|3=>3|n=>n,fun |n=>n⟩
theorem Tryz.lays104:Go.Proofs.Lays.n104 prog Tryz.lays104_ren:=⟨fc,func313.trans fd,func331.trans fd,func324.trans fd,underlying3,isAgg3,sizeOf3,zeroValue3,underlying4,isAgg4,sizeOf4,zeroValue4,underlying9,isAgg9,sizeOf9,zeroValue9,underlying151,isAgg151,sizeOf151,zeroValue151⟩
open Go.RowKit in
theorem Tryz.strings_CutSuffix(s p:ByteArray)(w:World)(hs:s.size<=9223372036854775807):
    Calls prog 313 #[.string s,.string p] w fun e w'=>e= .returned (.tuple #[.string ⟨(Lib.trimSuffix s.data.toList p.data.toList).toArray⟩,.bool (Lib.hasSuffix s.data.toList p.data.toList)])/\w'=w:=Any.strings_CutSuffix Tryz.lays104 s p w hs
def Tryz.lays121_ren:Go.Shelf.Ren:=⟨fun |121=>284|214=>300|n=>n,fun |4=>4|9=>9|n=>n,fun |n=>n⟩
theorem Tryz.lays121:Go.Proofs.Lays.n121 prog Tryz.lays121_ren:=⟨fc,func284.trans fd,func300.trans fd,underlying4,isAgg4,sizeOf4,zeroValue4,underlying9,isAgg9,sizeOf9,zeroValue9⟩
open Go.RowKit in
theorem Tryz.strconv_FormatBool(b:Bool)(w:World):
    Calls prog 284 #[.bool b] w fun e w'=>e= .returned (.string ⟨(Lib.formatBool b).toArray⟩)/\w'=w:=Any.strconv_FormatBool Tryz.lays121 b w
open Go.RowKit in
def Tryz.laysM173_ren:Go.Shelf.Ren:=⟨fun |173=>109|246=>158|283=>188|284=>189|285=>190|286=>191|129=>217|317=>216|318=>218|319=>219|320=>220|337=>255|338=>256|n=>n,fun |2=>2|3=>3|9=>9|4=>4|171=>225|0=>0|53=>226|37=>198|5=>5|173=>229|212=>258|51=>259|20=>20|213=>260|46=>261|232=>301|233=>302|n=>n,fun |17=>0|18=>2|19=>3|n=>n⟩
theorem Tryz.laysM173:Go.Proofs.LaysM.n173 prog Tryz.laysM173_ren:={
  mixed:=fc
  f129:=func217.trans fd
  f173:=func109.trans fd
  f246:=func158.trans fd
  f283:=func188.trans fd
  f284:=func189.trans fd
  f285:=func190.trans fd
  f286:=func191.trans fd
  f317:=func216.trans fd
  f318:=func218.trans fd
  f319:=func219.trans fd
  f320:=func220.trans fd
  f337:=func255.trans fd
  f338:=func256.trans fd
  t0:=underlying0
  a0:=isAgg0
  z0:=sizeOf0
  v0:=zeroValue0
  t2:=underlying2
  a2:=isAgg2
  z2:=sizeOf2
  v2:=zeroValue2
  t3:=underlying3
  a3:=isAgg3
  z3:=sizeOf3
  v3:=zeroValue3
  t4:=underlying4
  a4:=isAgg4
  z4:=sizeOf4
  v4:=zeroValue4
  t5:=underlying5
  a5:=isAgg5
  z5:=sizeOf5
  v5:=zeroValue5
  t9:=underlying9
  a9:=isAgg9
  z9:=sizeOf9
  v9:=zeroValue9
  t20:=underlying20
  a20:=isAgg20
  z20:=sizeOf20
  v20:=zeroValue20
  t37:=underlying198
  a37:=isAgg198
  z37:=sizeOf198
  v37:=zeroValue198
  t46:=underlying261
  a46:=isAgg261
  z46:=sizeOf261
  v46:=zeroValue261
  t51:=underlying259
  a51:=isAgg259
  z51:=sizeOf259
  v51:=zeroValue259
  t53:=underlying226
  a53:=isAgg226
  z53:=sizeOf226
  v53:=zeroValue226
  t171:=underlying225
  a171:=isAgg225
  z171:=sizeOf225
  v171:=zeroValue225
  t173:=underlying229
  a173:=isAgg229
  z173:=sizeOf229
  v173:=zeroValue229
  t212:=underlying258
  a212:=isAgg258
  z212:=sizeOf258
  v212:=zeroValue258
  t213:=underlying260
  a213:=isAgg260
  z213:=sizeOf260
  t232:=underlying301
  a232:=isAgg301
  z232:=sizeOf301
  v232:=zeroValue301
  t233:=underlying302
  a233:=isAgg302
  z233:=sizeOf302
  v233:=zeroValue302
  g17:=fc
  g18:=fc
  g19:=fc
  i0:=fc
  i2:=fc
  i3:=fc
  i4:=fc
  i5:=fc
  i9:=fc
  i20:=fc
  i37:=fc
  i46:=fc
  i51:=fc
  i53:=fc
  i171:=fc
  i173:=fc
  i212:=fc
  i232:=fc
  i233:=fc
  m17:=fc
  m18:=fc
  m19:=fc}
open Go.RowKit Go.Sort Go.Lib in
theorem Tryz.strconv_FormatInt_10(n:Int)(h0: -9223372036854775808<=n)(h1:n<=9223372036854775807)(w:World)(htab:Lib.TabIs prog w "internal/strconv.uint64pow10" .u64 Lib.pow10Tab):
    Calls prog 109 #[.int .i64 n,.int .i64 10] w fun e w'=>e= .returned (.string ⟨(Lib.itoa n).toArray⟩)/\∃k os,w'=grow (w.drewN k) os:=Any.strconv_FormatInt_10 Tryz.laysM173 n h0 h1 w htab
def Tryz.laysC174_ren:Go.Shelf.Ren:=⟨fun |174=>265|247=>291|245=>292|287=>302|279=>303|280=>304|281=>305|282=>306|321=>317|322=>318|316=>319|171=>321|205=>320|243=>329|246=>158|283=>188|284=>189|285=>190|286=>191|129=>217|317=>216|318=>218|319=>219|320=>220|337=>255|338=>256|n=>n,fun |9=>9|3=>3|2=>2|75=>203|85=>286|4=>4|167=>319|5=>5|53=>226|175=>320|46=>261|168=>322|37=>198|0=>0|210=>332|21=>21|127=>231|145=>338|143=>336|171=>225|173=>229|212=>258|51=>259|20=>20|213=>260|232=>301|233=>302|80=>83|n=>n,fun |15=>4|16=>5|17=>0|18=>2|19=>3|n=>n⟩
theorem Tryz.laysC174:Go.Proofs.LaysC.n174 prog Tryz.laysC174_ren:={
  mixed:=fc
  f129:=func217.trans fd
  f171:=func321.trans fd
  f174:=func265.trans fd
  f205:=func320.trans fd
  f243:=func329.trans fd
  f245:=func292.trans fd
  f246:=func158.trans fd
  f247:=func291.trans fd
  f279:=func303.trans fd
  f280:=func304.trans fd
  f281:=func305.trans fd
  f282:=func306.trans fd
  f283:=func188.trans fd
  f284:=func189.trans fd
  f285:=func190.trans fd
  f286:=func191.trans fd
  f287:=func302.trans fd
  f316:=func319.trans fd
  f317:=func216.trans fd
  f318:=func218.trans fd
  f319:=func219.trans fd
  f320:=func220.trans fd
  f321:=func317.trans fd
  f322:=func318.trans fd
  f337:=func255.trans fd
  f338:=func256.trans fd
  t0:=underlying0
  a0:=isAgg0
  z0:=sizeOf0
  v0:=zeroValue0
  t2:=underlying2
  a2:=isAgg2
  z2:=sizeOf2
  v2:=zeroValue2
  t3:=underlying3
  a3:=isAgg3
  z3:=sizeOf3
  v3:=zeroValue3
  t4:=underlying4
  a4:=isAgg4
  z4:=sizeOf4
  v4:=zeroValue4
  t5:=underlying5
  a5:=isAgg5
  z5:=sizeOf5
  v5:=zeroValue5
  t9:=underlying9
  a9:=isAgg9
  z9:=sizeOf9
  v9:=zeroValue9
  t20:=underlying20
  a20:=isAgg20
  z20:=sizeOf20
  v20:=zeroValue20
  t21:=underlying21
  a21:=isAgg21
  z21:=sizeOf21
  v21:=zeroValue21
  t37:=underlying198
  a37:=isAgg198
  z37:=sizeOf198
  v37:=zeroValue198
  t46:=underlying261
  a46:=isAgg261
  z46:=sizeOf261
  v46:=zeroValue261
  t51:=underlying259
  a51:=isAgg259
  z51:=sizeOf259
  v51:=zeroValue259
  t53:=underlying226
  a53:=isAgg226
  z53:=sizeOf226
  v53:=zeroValue226
  t75:=underlying203
  a75:=isAgg203
  z75:=sizeOf203
  v75:=zeroValue203
  t85:=underlying286
  a85:=isAgg286
  z85:=sizeOf286
  v85:=zeroValue286
  t127:=underlying231
  a127:=isAgg231
  z127:=sizeOf231
  v127:=zeroValue231
  t143:=underlying336
  a143:=isAgg336
  z143:=sizeOf336
  v143:=zeroValue336
  t145:=underlying338
  a145:=isAgg338
  z145:=sizeOf338
  v145:=zeroValue338
  t167:=underlying319
  a167:=isAgg319
  z167:=sizeOf319
  v167:=zeroValue319
  t168:=underlying322
  a168:=isAgg322
  z168:=sizeOf322
  v168:=zeroValue322
  t171:=underlying225
  a171:=isAgg225
  z171:=sizeOf225
  v171:=zeroValue225
  t173:=underlying229
  a173:=isAgg229
  z173:=sizeOf229
  v173:=zeroValue229
  t175:=underlying320
  a175:=isAgg320
  z175:=sizeOf320
  v175:=zeroValue320
  t210:=underlying332
  a210:=isAgg332
  z210:=sizeOf332
  v210:=zeroValue332
  t212:=underlying258
  a212:=isAgg258
  z212:=sizeOf258
  v212:=zeroValue258
  t213:=underlying260
  a213:=isAgg260
  z213:=sizeOf260
  t232:=underlying301
  a232:=isAgg301
  z232:=sizeOf301
  v232:=zeroValue301
  t233:=underlying302
  a233:=isAgg302
  z233:=sizeOf302
  v233:=zeroValue302
  g15:=fc
  g16:=fc
  g17:=fc
  g18:=fc
  g19:=fc
  t80:=underlying83
  a80:=isAgg83
  z80:=sizeOf83
  v80:=zeroValue83
  i0:=fc
  i2:=fc
  i3:=fc
  i4:=fc
  i5:=fc
  i9:=fc
  i20:=fc
  i21:=fc
  i37:=fc
  i46:=fc
  i51:=fc
  i53:=fc
  i75:=fc
  i80:=fc
  i85:=fc
  i127:=fc
  i143:=fc
  i145:=fc
  i167:=fc
  i168:=fc
  i171:=fc
  i173:=fc
  i175:=fc
  i210:=fc
  i212:=fc
  i232:=fc
  i233:=fc
  m15:=fc
  m16:=fc
  m17:=fc
  m18:=fc
  m19:=fc
  c0:=fc
  c2:=fc
  c3:=fc
  c4:=fc
  c5:=fc
  c9:=fc
  c20:=fc
  c21:=fc
  c37:=fc
  c46:=fc
  c51:=fc
  c53:=fc
  c75:=fc
  c80:=fc
  c85:=fc
  c127:=fc
  c143:=fc
  c145:=fc
  c167:=fc
  c168:=fc
  c171:=fc
  c173:=fc
  c175:=fc
  c210:=fc
  c212:=fc
  c213:=fc
  c232:=fc
  c233:=fc}
open Go.RowKit in
theorem Tryz.strconv_ParseInt_10_at64_ok(s:ByteArray)(hmax:s.size<=9223372036854775806)(v:Int)(h:Lib.parseIntB 64 s.data.toList= .ok v)(w:World):
    Calls prog 265 #[.string s,.int .i64 10,.int .i64 64] w fun e w'=>e= .returned (.tuple #[.int .i64 v,.nilIface])/\(w'=w\/∃t,w'=Lib.bytesWorld w 5 t):=Any.strconv_ParseInt_10_at64_ok Tryz.laysC174 s hmax v h w
open Go.RowKit in
theorem Tryz.strconv_ParseInt_10_at64_range_var(s:ByteArray)(hlim:s.size<=281474976710656)(h:Lib.parseIntB 64 s.data.toList= .range)(tp:TypeId)(p:Value)(w:World)(hvar:w.var? prog "strconv.ErrRange" =some #[.iface tp p]):
    Calls prog 265 #[.string s,.int .i64 10,.int .i64 64] w fun e w'=>∃N,e= .returned (.tuple #[.int .i64 (Lib.intSat 64 s.data.toList),.iface 322 (.pointer (some ⟨N,0,none⟩))])/\w.heap.size<=N/\w'.heap[N]?=some (.cells #[.string ⟨#[80,97,114,115,101,73,110,116]⟩,.string s,.iface tp p] 332 (0,0))/\Below w.heap.size w w':=Any.strconv_ParseInt_10_at64_range_var Tryz.laysC174 s hlim h tp p w hvar
def Tryz.lays143_ren:Go.Shelf.Ren:=⟨fun |143=>196|219=>224|217=>258|225=>259|224=>260|267=>261|266=>280|314=>281|n=>n,fun |9=>9|3=>3|4=>4|5=>5|46=>261|146=>308|51=>259|n=>n,fun |1=>1|n=>n⟩
theorem Tryz.lays143:Go.Proofs.Lays.n143 prog Tryz.lays143_ren:=⟨fc,func196.trans fd,func258.trans fd,func224.trans fd,func260.trans fd,func259.trans fd,func280.trans fd,func261.trans fd,func281.trans fd,underlying3,isAgg3,sizeOf3,zeroValue3,underlying4,isAgg4,sizeOf4,zeroValue4,underlying5,isAgg5,sizeOf5,zeroValue5,underlying9,isAgg9,sizeOf9,zeroValue9,underlying261,isAgg261,sizeOf261,zeroValue261,underlying259,isAgg259,sizeOf259,zeroValue259,underlying308,isAgg308,sizeOf308,zeroValue308,fc⟩
open Go.RowKit Go.Lib in
theorem Tryz.strings_Index_one(s:ByteArray)(c:UInt8)(w:World):
    Calls prog 196 #[.string s,.string ⟨#[c]⟩] w fun e w'=>e= .returned (.int .i64 (Lib.indexByte s.data.toList c))/\w'=w:=Any.strings_Index_one Tryz.lays143 s c w
def Tryz.lays99_ren:Go.Shelf.Ren:=⟨fun |99=>195|206=>209|n=>n,fun |9=>9|4=>4|3=>3|n=>n,fun |n=>n⟩
theorem Tryz.lays99:Go.Proofs.Lays.n99 prog Tryz.lays99_ren:=⟨fc,func195.trans fd,func209.trans fd,underlying3,isAgg3,sizeOf3,zeroValue3,underlying4,isAgg4,sizeOf4,zeroValue4,underlying9,isAgg9,sizeOf9,zeroValue9⟩
open Go.RowKit Go.Lib in
theorem Tryz.strings_HasPrefix(s p:ByteArray)(w:World):
    Calls prog 195 #[.string s,.string p] w fun e w'=>e= .returned (.bool (Lib.hasPrefix s.data.toList p.data.toList))/\w'=w:=Any.strings_HasPrefix Tryz.lays99 s p w
def Tryz.lays101_ren:Go.Shelf.Ren:=⟨fun |101=>138|208=>180|206=>209|n=>n,fun |9=>9|4=>4|3=>3|n=>n,fun |n=>n⟩
theorem Tryz.lays101:Go.Proofs.Lays.n101 prog Tryz.lays101_ren:=⟨fc,func138.trans fd,func209.trans fd,func180.trans fd,underlying3,isAgg3,sizeOf3,zeroValue3,underlying4,isAgg4,sizeOf4,zeroValue4,underlying9,isAgg9,sizeOf9,zeroValue9⟩
open Go.RowKit Go.Lib in
theorem Tryz.strings_TrimPrefix(s p:ByteArray)(w:World):
    Calls prog 138 #[.string s,.string p] w fun e w'=>e= .returned (.string ⟨(Lib.trimPrefix s.data.toList p.data.toList).toArray⟩)/\w'=w:=Any.strings_TrimPrefix Tryz.lays101 s p w
def Tryz.lays155_ren:Go.Shelf.Ren:=⟨fun |155=>288|154=>301|138=>315|165=>159|143=>196|166=>160|197=>316|169=>161|195=>326|218=>327|240=>192|241=>193|219=>224|260=>328|276=>221|277=>222|217=>258|225=>259|224=>260|267=>261|266=>280|314=>281|n=>n,fun |9=>9|3=>3|4=>4|72=>200|0=>0|76=>204|105=>328|21=>21|5=>5|70=>197|20=>20|37=>198|75=>203|127=>231|164=>263|46=>261|119=>339|139=>342|138=>341|146=>308|51=>259|80=>83|n=>n,fun |1=>1|3=>6|4=>7|n=>n⟩
theorem Tryz.lays155:Go.Proofs.Lays.n155 prog Tryz.lays155_ren:=⟨fc,func315.trans fd,func196.trans fd,func301.trans fd,func288.trans fd,func159.trans fd,func160.trans fd,func161.trans fd,func326.trans fd,func316.trans fd,func258.trans fd,func327.trans fd,func224.trans fd,func260.trans fd,func259.trans fd,func192.trans fd,func193.trans fd,func328.trans fd,func280.trans fd,func261.trans fd,func221.trans fd,func222.trans fd,func281.trans fd,underlying0,isAgg0,sizeOf0,zeroValue0,underlying3,isAgg3,sizeOf3,zeroValue3,underlying4,isAgg4,sizeOf4,zeroValue4,underlying5,isAgg5,sizeOf5,zeroValue5,underlying9,isAgg9,sizeOf9,zeroValue9,underlying20,isAgg20,sizeOf20,zeroValue20,underlying21,isAgg21,sizeOf21,zeroValue21,underlying198,isAgg198,sizeOf198,zeroValue198,underlying261,isAgg261,sizeOf261,zeroValue261,underlying259,isAgg259,sizeOf259,zeroValue259,underlying197,isAgg197,sizeOf197,zeroValue197,underlying200,isAgg200,sizeOf200,zeroValue200,underlying203,isAgg203,sizeOf203,zeroValue203,underlying204,isAgg204,sizeOf204,zeroValue204,underlying328,isAgg328,sizeOf328,zeroValue328,underlying339,isAgg339,sizeOf339,underlying231,isAgg231,sizeOf231,zeroValue231,underlying341,isAgg341,sizeOf341,zeroValue341,underlying342,isAgg342,sizeOf342,zeroValue342,underlying308,isAgg308,sizeOf308,zeroValue308,underlying263,isAgg263,sizeOf263,zeroValue263,fc,fc,fc⟩
theorem Tryz.Builder_Extra_155:Builder.Extra prog Tryz.lays155_ren:={
  sizeBuilder:=fc
  liesBuilder:=fc
  t5:=underlying5
  a5:=isAgg5
  z5:=sizeOf5
  v5:=zeroValue5
  infoByte:=fc
  cellsByte:=fc
  sizeByte:=fc
  neB5:=by decide}
open Go.RowKit Go.Lib in
theorem Tryz.strings_ReplaceAll(s old new:ByteArray)(m:Int)(w:World)(hs:s.size<4294967281)(hm:w.cell? ⟨1,0,none⟩=some (.int .i64 m))(h1:1<=old.size)(hlen:s.size+Lib.countB s old * new.size<=140737488355328):
    Calls prog 288 #[.string s,.string old,.string new] w fun e w'=>
      e= .returned (.string ⟨(Lib.replaceAll s.data.toList old.data.toList new.data.toList).toArray⟩)/\Below w.heap.size w w':=Any.strings_ReplaceAll Tryz.lays155 Tryz.Builder_Extra_155 s old new m w hs hm h1 hlen
open Go.RowKit Go.Lib in
def Tryz.lays153_ren:Go.Shelf.Ren:=⟨fun |153=>257|152=>276|226=>277|227=>278|228=>279|137=>295|119=>299|224=>260|225=>259|217=>258|266=>280|n=>n,fun |9=>9|3=>3|4=>4|5=>5|21=>21|117=>306|116=>305|0=>0|46=>261|124=>317|n=>n,fun |n=>n⟩
theorem Tryz.lays153:Go.Proofs.Lays.n153 prog Tryz.lays153_ren:=⟨fc,func299.trans fd,func295.trans fd,func276.trans fd,func257.trans fd,func258.trans fd,func260.trans fd,func259.trans fd,func277.trans fd,func278.trans fd,func279.trans fd,func280.trans fd,underlying0,isAgg0,sizeOf0,zeroValue0,underlying3,isAgg3,sizeOf3,zeroValue3,underlying4,isAgg4,sizeOf4,zeroValue4,underlying5,isAgg5,sizeOf5,zeroValue5,underlying9,isAgg9,sizeOf9,zeroValue9,underlying21,isAgg21,sizeOf21,zeroValue21,underlying261,isAgg261,sizeOf261,zeroValue261,underlying305,isAgg305,sizeOf305,underlying306,isAgg306,sizeOf306,zeroValue306,underlying317,isAgg317,sizeOf317,zeroValue317⟩
open Go.RowKit Go.Lib in
theorem Tryz.strings_IndexAny_short(s chars:ByteArray)(w:World)(h2:2<=chars.size)(h8:s.size<=8)(hascii:∀(j:Nat) b,s.data.toList[j]?=some b->b.toNat<128):
    Calls prog 257 #[.string s,.string chars] w fun e w'=>e= .returned (.int .i64 (Lib.indexAny s.data.toList chars.data.toList))/\∃pos,w'=w.iter s pos:=Any.strings_IndexAny_short Tryz.lays153 s chars w h2 h8 hascii
def Tryz.lays110_ren:Go.Shelf.Ren:=⟨fun |110=>201|109=>236|n=>n,fun |31=>82|9=>9|4=>4|3=>3|0=>0|n=>n,fun |n=>n⟩
theorem Tryz.lays110:Go.Proofs.Lays.n110 prog Tryz.lays110_ren:=⟨fc,func236.trans fd,func201.trans fd,underlying0,isAgg0,sizeOf0,zeroValue0,underlying3,isAgg3,sizeOf3,zeroValue3,underlying4,isAgg4,sizeOf4,zeroValue4,underlying9,isAgg9,sizeOf9,zeroValue9,underlying82,isAgg82,sizeOf82,zeroValue82⟩
open Go.Lib in
theorem Tryz.slices_Contains_string(b off n c:Nat)(zs:List ByteArray)(x:ByteArray)(w:World)(hz:n<=zs.length)(hbig:n<=9223372036854775807)(hc:∀j,j<zs.length->w.cell? ⟨b,off+j,none⟩=some (.string (zs.getD j ByteArray.empty))):
    Calls prog 201 #[.slice (some ⟨b,off,none⟩) n c,.string x] w fun e w'=>e= .returned (.bool (Lib.containsS (zs.take n) x))/\w'=w:=Any.slices_Contains_string Tryz.lays110 b off n c zs x w hz hbig hc
def Tryz.laysSlH6_f262_ren:Go.Shelf.Ren:=⟨fun |6=>262|n=>n,fun |22=>82|23=>9|25=>69|3=>3|0=>0|4=>4|n=>n,fun |n=>n⟩
theorem Tryz.laysSlH6_f262:Go.Proofs.SlLaysH.n6 prog Tryz.laysSlH6_f262_ren:=⟨fc,⟨Tryz.f262.name,by decide,func262.trans fd⟩,underlying0,isAgg0,sizeOf0,zeroValue0,underlying3,isAgg3,sizeOf3,zeroValue3,underlying4,isAgg4,sizeOf4,zeroValue4,underlying82,isAgg82,sizeOf82,zeroValue82,isAgg9,sizeOf9,underlying69,isAgg69,sizeOf69,zeroValue69⟩
open Go.RowKit Go.Lib in
theorem Tryz.slices_IndexFunc{α:Type}[Inhabited α](enc:α->Value)(p:α->Bool)(g:Nat)(lb:Array Value)(eg:∀args w,(callFunc g args).run prog w= .ok (.enter g args) w)(b off n c:Nat)(zs:List α)(w:World)(hp:PredAt prog g lb enc p w)(hz:n<=zs.length)(hbig:n<=9223372036854775807)(hc:∀j,j<zs.length->w.cell? ⟨b,off+j,none⟩=some (enc zs[j]!)):
    Calls prog 262 #[.slice (some ⟨b,off,none⟩) n c,.func (.func g) #[] lb] w fun e w'=>e= .returned (.int .i64 (Lib.idxBy (fun _ y=>p y) (zs.take n) default))/\∃q,w'=w.drewN q:=AnyE.slices_IndexFunc Tryz.laysSlH6_f262 enc p g lb eg b off n c zs w hp hz hbig hc
open Go.RowKit in
theorem Tryz.strings_Trim_laid(s cutset:ByteArray)(w:World)(hs:s.size<=9223372036854775807)(hcs:cutset.size<4294967281)(hascii:∀(j:Nat) (b:UInt8),cutset.data.toList[j]?=some b->b.toNat<128):
    Calls prog 294 #[.string s,.string cutset] w fun e w'=>e= .returned (.string ⟨(Lib.trimS s.data.toList cutset.data.toList).toArray⟩)/\Below w.heap.size w w':=Any.strings_Trim_laid Tryz.lays160 (fc) s cutset w hs hcs hascii
def Tryz.lays167_ren:Go.Shelf.Ren:=⟨fun |167=>290|240=>192|276=>221|n=>n,fun |0=>0|4=>4|5=>5|9=>9|20=>20|37=>198|70=>197|72=>200|75=>203|80=>83|164=>263|n=>n,fun |n=>n⟩
theorem Tryz.lays167:Go.Proofs.Lays.n167 prog Tryz.lays167_ren:=⟨fc,func290.trans fd,func192.trans fd,func221.trans fd,underlying0,isAgg0,sizeOf0,zeroValue0,underlying4,isAgg4,sizeOf4,zeroValue4,underlying5,isAgg5,sizeOf5,zeroValue5,underlying9,isAgg9,sizeOf9,zeroValue9,underlying20,isAgg20,sizeOf20,zeroValue20,underlying198,isAgg198,sizeOf198,zeroValue198,underlying197,isAgg197,sizeOf197,zeroValue197,underlying200,isAgg200,sizeOf200,zeroValue200,underlying203,isAgg203,sizeOf203,zeroValue203,underlying263,isAgg263,sizeOf263,zeroValue263⟩
theorem Tryz.Builder_Extra_167:Builder.Extra prog Tryz.lays167_ren:={
  sizeBuilder:=fc
  liesBuilder:=fc
  t5:=underlying5
  a5:=isAgg5
  z5:=sizeOf5
  v5:=zeroValue5
  infoByte:=fc
  cellsByte:=fc
  sizeByte:=fc
  neB5:=by decide}
end Go.Proofs
