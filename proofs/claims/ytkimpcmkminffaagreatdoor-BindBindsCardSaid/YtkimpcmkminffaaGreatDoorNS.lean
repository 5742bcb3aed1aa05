/- The shelf's contracts. -/
import Derived.Shelf.Strings.Builder1
import Derived.Shelf.Strings.Builder2
import Derived.Shelf.Strings.OnBuilder
import Derived.Shelf.Strings.Trim
import Derived.Shelf.Small.Utf8
import Derived.Shelf.Small.Strs
import Derived.Shelf.Small.Wraps
import Derived.Shelf.Strings.BuilderF
import Derived.Shelf.Strings.BuilderK
import Derived.Shelf.Utf8.RuneCount
import Derived.Shelf.Strings.Builder2Cap
import Derived.Shelf.Strconv.Itoa0
import Derived.Shelf.Strconv.Itoa1
import Derived.Shelf.LaysM
import Derived.Shelf.Strconv.Itoa2
import Derived.Shelf.Strconv.Itoa3
import Derived.Shelf.Strconv.Itoa4
import Derived.Shelf.Strconv.ParseIntEmpty
import Derived.Shelf.Strconv.Clone
import Derived.Shelf.Strconv.SyntaxError
import Derived.Shelf.LaysC
import Derived.Shelf.Strconv.ToError
import Derived.Shelf.Strconv.Lower
import Derived.Shelf.Strconv.ParseUint10
import Derived.Shelf.Strconv.ParseUint10Empty
import Derived.Shelf.Strconv.ParseUint10Any
import Derived.Shelf.Strconv.ParseInt10
import Derived.Shelf.Strconv.RangeError
import Derived.Shelf.Strconv.ToErrorRange
import Derived.Shelf.Strconv.ParseUintEmpty
import Derived.Shelf.Strconv.ParseUint10b64
import Derived.Shelf.Strconv.ParseUint10b32
import Derived.Shelf.Strconv.ParseUint10b16
import Derived.Shelf.Strconv.ParseUint10b8
import Derived.Shelf.Strconv.ParseUint10At
import Derived.Shelf.Strconv.ParseInt10At64
import Derived.Shelf.Strconv.ParseInt10At32
import Derived.Shelf.Strconv.ParseInt10At16
import Derived.Shelf.Strconv.ParseInt10At8
import Derived.Shelf.Strconv.ParseInt10All
import Derived.Shelf.Strconv.ParseIntPublic10
import Derived.Shelf.Strconv.ErrVarParseInt
import Derived.Shelf.Strings.Search1
import Derived.Shelf.Strings.Search2
import Derived.Shelf.Strings.Search3
import Derived.Shelf.Strings.Count
import Derived.Shelf.Strings.Shaped
import Derived.Shelf.Strings.Prefix
import Derived.Shelf.Strings.Split
import Derived.Shelf.Strings.Replace
import Derived.Shelf.Strings.SplitShaped
import Derived.Shelf.Strings.Runes
import Derived.Shelf.Strings.RuneCount
import Derived.Shelf.Strings.IndexAny
import Derived.Shelf.Strings.AsciiSet
import Derived.Shelf.Strings.IndexAnyAll
import Derived.Shelf.Bits.Mul64
import Derived.Shelf.Unicode.DecodeSlow
import Derived.Shelf.Strings.BuilderCap
import Derived.Shelf.Slices.Turned
import Derived.Ground.SlgfProg
import Derived.Shelf.SlicesE.IndexFunc
import Derived.Shelf.Strings.SlTrimAscii
import Derived.Test.YtkimpcmkminffaaGreatDoorProg
namespace Go.Proofs
open Tryz
theorem cM{P:Prop}(h:P:=by kernel_rfl):P:=h
theorem cN{α:Type}{a b:α}(h:a=b:=by kernel_rfl):some a=some b:=congrArg some h
open Go.Shelf
def Tryz.lays169_ren:Go.Shelf.Ren:=⟨fun |169=>189|n=>n,fun |70=>230|9=>9|0=>0|72=>232|37=>210|127=>243|3=>3|5=>5|n=>n,fun |n=>n⟩
theorem Tryz.lays169:Go.Proofs.Lays.n169 prog Tryz.lays169_ren:=⟨cM,func189.trans cN,underlying0,isAgg0,sizeOf0,zeroValue0,underlying3,isAgg3,sizeOf3,zeroValue3,underlying9,isAgg9,sizeOf9,zeroValue9,underlying210,isAgg210,sizeOf210,zeroValue210,underlying230,isAgg230,sizeOf230,zeroValue230,underlying232,isAgg232,sizeOf232,zeroValue232,underlying243,isAgg243,sizeOf243,zeroValue243⟩
theorem Tryz.Builder_Extra_169:Builder.Extra prog Tryz.lays169_ren:={
  sizeBuilder:=cM
  liesBuilder:=cM
  t5:=underlying5
  a5:=isAgg5
  z5:=sizeOf5
  v5:=zeroValue5
  infoByte:=cM
  cellsByte:=cM
  sizeByte:=cM
  neB5:=by decide}
open Go.RowKit in
theorem Tryz.Builder_String_any(B b:Nat)(l:List UInt8)(w:World)(h:Lib.IsBuilder 232 5 B b (Lib.byteCells l) w)(hBw:B<=w.heap.size):
    Calls prog 189 #[.pointer (some ⟨b,0,none⟩)] w fun e w'=>e= .returned (.string ⟨l.toArray⟩)/\Below B w w':=Any.Builder_String_any Tryz.lays169 Tryz.Builder_Extra_169 B b l w h hBw
open Go.RowKit in
def Tryz.lays160_ren:Go.Shelf.Ren:=⟨fun |160=>243|232=>259|231=>258|227=>226|234=>261|233=>260|236=>263|235=>262|228=>227|271=>278|151=>277|197=>266|120=>286|152=>224|260=>282|137=>244|119=>246|224=>215|225=>214|217=>213|266=>228|n=>n,fun |9=>9|4=>4|3=>3|5=>5|117=>268|116=>267|0=>0|124=>281|21=>21|105=>298|46=>174|119=>313|139=>316|138=>315|n=>n,fun |3=>4|4=>5|n=>n⟩
theorem Tryz.lays160:Go.Proofs.Lays.n160 prog Tryz.lays160_ren:=⟨cM,func246.trans cN,func286.trans cN,func244.trans cN,func277.trans cN,func224.trans cN,func243.trans cN,func266.trans cN,func213.trans cN,func215.trans cN,func214.trans cN,func226.trans cN,func227.trans cN,func258.trans cN,func259.trans cN,func260.trans cN,func261.trans cN,func262.trans cN,func263.trans cN,func282.trans cN,func228.trans cN,func278.trans cN,underlying0,isAgg0,sizeOf0,zeroValue0,underlying3,isAgg3,sizeOf3,zeroValue3,underlying4,isAgg4,sizeOf4,zeroValue4,underlying5,isAgg5,sizeOf5,zeroValue5,underlying9,isAgg9,sizeOf9,zeroValue9,underlying21,isAgg21,sizeOf21,zeroValue21,underlying174,isAgg174,sizeOf174,zeroValue174,underlying298,isAgg298,sizeOf298,zeroValue298,underlying267,isAgg267,sizeOf267,underlying268,isAgg268,sizeOf268,zeroValue268,underlying313,isAgg313,sizeOf313,underlying281,isAgg281,sizeOf281,zeroValue281,underlying315,isAgg315,sizeOf315,zeroValue315,underlying316,isAgg316,sizeOf316,zeroValue316,cM,cM⟩
def Tryz.lays137_ren:Go.Shelf.Ren:=⟨fun |137=>244|217=>213|266=>228|n=>n,fun |9=>9|5=>5|3=>3|n=>n,fun |n=>n⟩
theorem Tryz.lays137:Go.Proofs.Lays.n137 prog Tryz.lays137_ren:=⟨cM,func244.trans cN,func213.trans cN,func228.trans cN,underlying3,isAgg3,sizeOf3,zeroValue3,underlying5,isAgg5,sizeOf5,zeroValue5,underlying9,isAgg9,sizeOf9,zeroValue9⟩
open Go.RowKit in
theorem Tryz.strings_IndexByte(s:ByteArray)(c:Int)(w:World):
    Calls prog 244 #[.string s,.int .u8 c] w fun e w'=>e= .returned (.int .i64 (Lib.indexByte s.data.toList c.toNat.toUInt8))/\w'=w:=Any.strings_IndexByte Tryz.lays137 s c w
def Tryz.lays103_ren:Go.Shelf.Ren:=⟨fun |103=>221|210=>242|206=>199|n=>n,fun |9=>9|4=>4|24=>149|3=>3|n=>n,fun |n=>n⟩
theorem Tryz.lays103:Go.Proofs.Lays.n103 prog Tryz.lays103_ren:=⟨cM,func221.trans cN,func199.trans cN,func242.trans cN,underlying3,isAgg3,sizeOf3,zeroValue3,underlying4,isAgg4,sizeOf4,zeroValue4,underlying9,isAgg9,sizeOf9,zeroValue9,underlying149,isAgg149,sizeOf149,zeroValue149⟩
open Go.RowKit in
theorem Tryz.strings_CutPrefix(s p:ByteArray)(w:World):
    Calls prog 221 #[.string s,.string p] w fun e w'=>e= .returned (.tuple #[.string ⟨(Lib.trimPrefix s.data.toList p.data.toList).toArray⟩,.bool (Lib.hasPrefix s.data.toList p.data.toList)])/\w'=w:=Any.strings_CutPrefix Tryz.lays103 s p w
def Tryz.lays104_ren:Go.Shelf.Ren:=⟨fun |104=>264|211=>279|207=>287|n=>n,fun |9=>9|4=>4|24=>149|3=>3|n=>n,fun |n=>n⟩
theorem Tryz.lays104:Go.Proofs.Lays.n104 prog Tryz.lays104_ren:=⟨cM,func264.trans cN,func287.trans cN,func279.trans cN,underlying3,isAgg3,sizeOf3,zeroValue3,underlying4,isAgg4,sizeOf4,zeroValue4,underlying9,isAgg9,sizeOf9,zeroValue9,underlying149,isAgg149,sizeOf149,zeroValue149⟩
open Go.RowKit in
theorem Tryz.strings_CutSuffix(s p:ByteArray)(w:World)(hs:s.size<=9223372036854775807):
    Calls prog 264 #[.string s,.string p] w fun e w'=>e= .returned (.tuple #[.string ⟨(Lib.trimSuffix s.data.toList p.data.toList).toArray⟩,.bool (Lib.hasSuffix s.data.toList p.data.toList)])/\w'=w:=Any.strings_CutSuffix Tryz.lays104 s p w hs
def Tryz.lays121_ren:Go.Shelf.Ren:=⟨fun |121=>232|214=>247|n=>n,fun |4=>4|9=>9|n=>n,fun |n=>n⟩
theorem Tryz.lays121:Go.Proofs.Lays.n121 prog Tryz.lays121_ren:=⟨cM,func232.trans cN,func247.trans cN,underlying4,isAgg4,sizeOf4,zeroValue4,underlying9,isAgg9,sizeOf9,zeroValue9⟩
open Go.RowKit in
theorem Tryz.strconv_FormatBool(b:Bool)(w:World):
    Calls prog 232 #[.bool b] w fun e w'=>e= .returned (.string ⟨(Lib.formatBool b).toArray⟩)/\w'=w:=Any.strconv_FormatBool Tryz.lays121 b w
open Go.RowKit in
def Tryz.laysM173_ren:Go.Shelf.Ren:=⟨fun |173=>220|246=>241|283=>254|284=>255|285=>256|286=>257|129=>273|317=>272|318=>274|319=>275|320=>276|337=>284|338=>285|n=>n,fun |2=>2|3=>3|9=>9|4=>4|171=>290|0=>0|53=>218|37=>210|5=>5|173=>293|212=>305|51=>270|20=>20|213=>306|46=>174|232=>317|233=>318|n=>n,fun |17=>3|18=>6|19=>7|n=>n⟩
theorem Tryz.laysM173:Go.Proofs.LaysM.n173 prog Tryz.laysM173_ren:={
  mixed:=cM
  f129:=func273.trans cN
  f173:=func220.trans cN
  f246:=func241.trans cN
  f283:=func254.trans cN
  f284:=func255.trans cN
  f285:=func256.trans cN
  f286:=func257.trans cN
  f317:=func272.trans cN
  f318:=func274.trans cN
  f319:=func275.trans cN
  f320:=func276.trans cN
  f337:=func284.trans cN
  f338:=func285.trans cN
  t0:=underlying0
  a0:=isAgg0
  z0:=sizeOf0
  v0:=zeroValue0
  t2:=underlying2
  a2:=isAgg2
  z2:=sizeOf2
  v2:=zeroValue2
  t3:=underlying3
  a3:=isAgg3
  z3:=sizeOf3
  v3:=zeroValue3
  t4:=underlying4
  a4:=isAgg4
  z4:=sizeOf4
  v4:=zeroValue4
  t5:=underlying5
  a5:=isAgg5
  z5:=sizeOf5
  v5:=zeroValue5
  t9:=underlying9
  a9:=isAgg9
  z9:=sizeOf9
  v9:=zeroValue9
  t20:=underlying20
  a20:=isAgg20
  z20:=sizeOf20
  v20:=zeroValue20
  t37:=underlying210
  a37:=isAgg210
  z37:=sizeOf210
  v37:=zeroValue210
  t46:=underlying174
  a46:=isAgg174
  z46:=sizeOf174
  v46:=zeroValue174
  t51:=underlying270
  a51:=isAgg270
  z51:=sizeOf270
  v51:=zeroValue270
  t53:=underlying218
  a53:=isAgg218
  z53:=sizeOf218
  v53:=zeroValue218
  t171:=underlying290
  a171:=isAgg290
  z171:=sizeOf290
  v171:=zeroValue290
  t173:=underlying293
  a173:=isAgg293
  z173:=sizeOf293
  v173:=zeroValue293
  t212:=underlying305
  a212:=isAgg305
  z212:=sizeOf305
  v212:=zeroValue305
  t213:=underlying306
  a213:=isAgg306
  z213:=sizeOf306
  t232:=underlying317
  a232:=isAgg317
  z232:=sizeOf317
  v232:=zeroValue317
  t233:=underlying318
  a233:=isAgg318
  z233:=sizeOf318
  v233:=zeroValue318
  g17:=cM
  g18:=cM
  g19:=cM
  i0:=cM
  i2:=cM
  i3:=cM
  i4:=cM
  i5:=cM
  i9:=cM
  i20:=cM
  i37:=cM
  i46:=cM
  i51:=cM
  i53:=cM
  i171:=cM
  i173:=cM
  i212:=cM
  i232:=cM
  i233:=cM
  m17:=cM
  m18:=cM
  m19:=cM}
open Go.RowKit Go.Sort Go.Lib in
theorem Tryz.strconv_FormatInt_10(n:Int)(h0: -9223372036854775808<=n)(h1:n<=9223372036854775807)(w:World)(htab:Lib.TabIs prog w "internal/strconv.uint64pow10" .u64 Lib.pow10Tab):
    Calls prog 220 #[.int .i64 n,.int .i64 10] w fun e w'=>e= .returned (.string ⟨(Lib.itoa n).toArray⟩)/\∃k os,w'=grow (w.drewN k) os:=Any.strconv_FormatInt_10 Tryz.laysM173 n h0 h1 w htab
def Tryz.laysC174_ren:Go.Shelf.Ren:=⟨fun |174=>219|247=>239|245=>240|287=>249|279=>250|280=>251|281=>252|282=>253|321=>267|322=>268|316=>269|171=>271|205=>270|243=>283|246=>241|283=>254|284=>255|285=>256|286=>257|129=>273|317=>272|318=>274|319=>275|320=>276|337=>284|338=>285|n=>n,fun |9=>9|3=>3|2=>2|75=>234|85=>255|4=>4|167=>283|5=>5|53=>218|175=>284|46=>174|168=>286|37=>210|0=>0|210=>302|21=>21|127=>243|145=>311|143=>309|171=>290|173=>293|212=>305|51=>270|20=>20|213=>306|232=>317|233=>318|80=>237|n=>n,fun |15=>1|16=>2|17=>3|18=>6|19=>7|n=>n⟩
theorem Tryz.laysC174:Go.Proofs.LaysC.n174 prog Tryz.laysC174_ren:={
  mixed:=cM
  f129:=func273.trans cN
  f171:=func271.trans cN
  f174:=func219.trans cN
  f205:=func270.trans cN
  f243:=func283.trans cN
  f245:=func240.trans cN
  f246:=func241.trans cN
  f247:=func239.trans cN
  f279:=func250.trans cN
  f280:=func251.trans cN
  f281:=func252.trans cN
  f282:=func253.trans cN
  f283:=func254.trans cN
  f284:=func255.trans cN
  f285:=func256.trans cN
  f286:=func257.trans cN
  f287:=func249.trans cN
  f316:=func269.trans cN
  f317:=func272.trans cN
  f318:=func274.trans cN
  f319:=func275.trans cN
  f320:=func276.trans cN
  f321:=func267.trans cN
  f322:=func268.trans cN
  f337:=func284.trans cN
  f338:=func285.trans cN
  t0:=underlying0
  a0:=isAgg0
  z0:=sizeOf0
  v0:=zeroValue0
  t2:=underlying2
  a2:=isAgg2
  z2:=sizeOf2
  v2:=zeroValue2
  t3:=underlying3
  a3:=isAgg3
  z3:=sizeOf3
  v3:=zeroValue3
  t4:=underlying4
  a4:=isAgg4
  z4:=sizeOf4
  v4:=zeroValue4
  t5:=underlying5
  a5:=isAgg5
  z5:=sizeOf5
  v5:=zeroValue5
  t9:=underlying9
  a9:=isAgg9
  z9:=sizeOf9
  v9:=zeroValue9
  t20:=underlying20
  a20:=isAgg20
  z20:=sizeOf20
  v20:=zeroValue20
  t21:=underlying21
  a21:=isAgg21
  z21:=sizeOf21
  v21:=zeroValue21
  t37:=underlying210
  a37:=isAgg210
  z37:=sizeOf210
  v37:=zeroValue210
  t46:=underlying174
  a46:=isAgg174
  z46:=sizeOf174
  v46:=zeroValue174
  t51:=underlying270
  a51:=isAgg270
  z51:=sizeOf270
  v51:=zeroValue270
  t53:=underlying218
  a53:=isAgg218
  z53:=sizeOf218
  v53:=zeroValue218
  t75:=underlying234
  a75:=isAgg234
  z75:=sizeOf234
  v75:=zeroValue234
  t85:=underlying255
  a85:=isAgg255
  z85:=sizeOf255
  v85:=zeroValue255
  t127:=underlying243
  a127:=isAgg243
  z127:=sizeOf243
  v127:=zeroValue243
  t143:=underlying309
  a143:=isAgg309
  z143:=sizeOf309
  v143:=zeroValue309
  t145:=underlying311
  a145:=isAgg311
  z145:=sizeOf311
  v145:=zeroValue311
  t167:=underlying283
  a167:=isAgg283
  z167:=sizeOf283
  v167:=zeroValue283
  t168:=underlying286
  a168:=isAgg286
  z168:=sizeOf286
  v168:=zeroValue286
  t171:=underlying290
  a171:=isAgg290
  z171:=sizeOf290
  v171:=zeroValue290
  t173:=underlying293
  a173:=isAgg293
  z173:=sizeOf293
  v173:=zeroValue293
  t175:=underlying284
  a175:=isAgg284
  z175:=sizeOf284
  v175:=zeroValue284
  t210:=underlying302
  a210:=isAgg302
  z210:=sizeOf302
  v210:=zeroValue302
  t212:=underlying305
  a212:=isAgg305
  z212:=sizeOf305
  v212:=zeroValue305
  t213:=underlying306
  a213:=isAgg306
  z213:=sizeOf306
  t232:=underlying317
  a232:=isAgg317
  z232:=sizeOf317
  v232:=zeroValue317
  t233:=underlying318
  a233:=isAgg318
  z233:=sizeOf318
  v233:=zeroValue318
  g15:=cM
  g16:=cM
  g17:=cM
  g18:=cM
  g19:=cM
  t80:=underlying237
  a80:=isAgg237
  z80:=sizeOf237
  v80:=zeroValue237
  i0:=cM
  i2:=cM
  i3:=cM
  i4:=cM
  i5:=cM
  i9:=cM
  i20:=cM
  i21:=cM
  i37:=cM
  i46:=cM
  i51:=cM
  i53:=cM
  i75:=cM
  i80:=cM
  i85:=cM
  i127:=cM
  i143:=cM
  i145:=cM
  i167:=cM
  i168:=cM
  i171:=cM
  i173:=cM
  i175:=cM
  i210:=cM
  i212:=cM
  i232:=cM
  i233:=cM
  m15:=cM
  m16:=cM
  m17:=cM
  m18:=cM
  m19:=cM
  c0:=cM
  c2:=cM
  c3:=cM
  c4:=cM
  c5:=cM
  c9:=cM
  c20:=cM
  c21:=cM
  c37:=cM
  c46:=cM
  c51:=cM
  c53:=cM
  c75:=cM
  c80:=cM
  c85:=cM
  c127:=cM
  c143:=cM
  c145:=cM
  c167:=cM
  c168:=cM
  c171:=cM
  c173:=cM
  c175:=cM
  c210:=cM
  c212:=cM
  c213:=cM
  c232:=cM
  c233:=cM}
open Go.RowKit in
theorem Tryz.strconv_ParseInt_10_at64_ok(s:ByteArray)(hmax:s.size<=9223372036854775806)(v:Int)(h:Lib.parseIntB 64 s.data.toList= .ok v)(w:World):
    Calls prog 219 #[.string s,.int .i64 10,.int .i64 64] w fun e w'=>e= .returned (.tuple #[.int .i64 v,.nilIface])/\(w'=w\/∃t,w'=Lib.bytesWorld w 5 t):=Any.strconv_ParseInt_10_at64_ok Tryz.laysC174 s hmax v h w
open Go.RowKit in
theorem Tryz.strconv_ParseInt_10_at64_range_var(s:ByteArray)(hlim:s.size<=281474976710656)(h:Lib.parseIntB 64 s.data.toList= .range)(tp:TypeId)(p:Value)(w:World)(hvar:w.var? prog "strconv.ErrRange" =some #[.iface tp p]):
    Calls prog 219 #[.string s,.int .i64 10,.int .i64 64] w fun e w'=>∃N,e= .returned (.tuple #[.int .i64 (Lib.intSat 64 s.data.toList),.iface 286 (.pointer (some ⟨N,0,none⟩))])/\w.heap.size<=N/\w'.heap[N]?=some (.cells #[.string ⟨#[80,97,114,115,101,73,110,116]⟩,.string s,.iface tp p] 302 (0,0))/\Below w.heap.size w w':=Any.strconv_ParseInt_10_at64_range_var Tryz.laysC174 s hlim h tp p w hvar
def Tryz.lays143_ren:Go.Shelf.Ren:=⟨fun |143=>192|219=>200|217=>213|225=>214|224=>215|267=>216|266=>228|314=>229|n=>n,fun |9=>9|3=>3|4=>4|5=>5|46=>174|146=>271|51=>270|n=>n,fun |1=>0|n=>n⟩
theorem Tryz.lays143:Go.Proofs.Lays.n143 prog Tryz.lays143_ren:=⟨cM,func192.trans cN,func213.trans cN,func200.trans cN,func215.trans cN,func214.trans cN,func228.trans cN,func216.trans cN,func229.trans cN,underlying3,isAgg3,sizeOf3,zeroValue3,underlying4,isAgg4,sizeOf4,zeroValue4,underlying5,isAgg5,sizeOf5,zeroValue5,underlying9,isAgg9,sizeOf9,zeroValue9,underlying174,isAgg174,sizeOf174,zeroValue174,underlying270,isAgg270,sizeOf270,zeroValue270,underlying271,isAgg271,sizeOf271,zeroValue271,cM⟩
open Go.RowKit Go.Lib in
theorem Tryz.strings_Index_one(s:ByteArray)(c:UInt8)(w:World):
    Calls prog 192 #[.string s,.string ⟨#[c]⟩] w fun e w'=>e= .returned (.int .i64 (Lib.indexByte s.data.toList c))/\w'=w:=Any.strings_Index_one Tryz.lays143 s c w
def Tryz.lays99_ren:Go.Shelf.Ren:=⟨fun |99=>191|206=>199|n=>n,fun |9=>9|4=>4|3=>3|n=>n,fun |n=>n⟩
theorem Tryz.lays99:Go.Proofs.Lays.n99 prog Tryz.lays99_ren:=⟨cM,func191.trans cN,func199.trans cN,underlying3,isAgg3,sizeOf3,zeroValue3,underlying4,isAgg4,sizeOf4,zeroValue4,underlying9,isAgg9,sizeOf9,zeroValue9⟩
open Go.RowKit Go.Lib in
theorem Tryz.strings_HasPrefix(s p:ByteArray)(w:World):
    Calls prog 191 #[.string s,.string p] w fun e w'=>e= .returned (.bool (Lib.hasPrefix s.data.toList p.data.toList))/\w'=w:=Any.strings_HasPrefix Tryz.lays99 s p w
def Tryz.lays155_ren:Go.Shelf.Ren:=⟨fun |155=>236|154=>248|138=>265|165=>187|143=>192|166=>188|197=>266|169=>189|195=>280|218=>281|240=>196|241=>197|219=>200|260=>282|276=>210|277=>211|217=>213|225=>214|224=>215|267=>216|266=>228|314=>229|n=>n,fun |9=>9|3=>3|4=>4|72=>232|0=>0|76=>235|105=>298|21=>21|5=>5|70=>230|20=>20|37=>210|75=>234|127=>243|164=>246|46=>174|119=>313|139=>316|138=>315|146=>271|51=>270|80=>237|n=>n,fun |1=>0|3=>4|4=>5|n=>n⟩
theorem Tryz.lays155:Go.Proofs.Lays.n155 prog Tryz.lays155_ren:=⟨cM,func265.trans cN,func192.trans cN,func248.trans cN,func236.trans cN,func187.trans cN,func188.trans cN,func189.trans cN,func280.trans cN,func266.trans cN,func213.trans cN,func281.trans cN,func200.trans cN,func215.trans cN,func214.trans cN,func196.trans cN,func197.trans cN,func282.trans cN,func228.trans cN,func216.trans cN,func210.trans cN,func211.trans cN,func229.trans cN,underlying0,isAgg0,sizeOf0,zeroValue0,underlying3,isAgg3,sizeOf3,zeroValue3,underlying4,isAgg4,sizeOf4,zeroValue4,underlying5,isAgg5,sizeOf5,zeroValue5,underlying9,isAgg9,sizeOf9,zeroValue9,underlying20,isAgg20,sizeOf20,zeroValue20,underlying21,isAgg21,sizeOf21,zeroValue21,underlying210,isAgg210,sizeOf210,zeroValue210,underlying174,isAgg174,sizeOf174,zeroValue174,underlying270,isAgg270,sizeOf270,zeroValue270,underlying230,isAgg230,sizeOf230,zeroValue230,underlying232,isAgg232,sizeOf232,zeroValue232,underlying234,isAgg234,sizeOf234,zeroValue234,underlying235,isAgg235,sizeOf235,zeroValue235,underlying298,isAgg298,sizeOf298,zeroValue298,underlying313,isAgg313,sizeOf313,underlying243,isAgg243,sizeOf243,zeroValue243,underlying315,isAgg315,sizeOf315,zeroValue315,underlying316,isAgg316,sizeOf316,zeroValue316,underlying271,isAgg271,sizeOf271,zeroValue271,underlying246,isAgg246,sizeOf246,zeroValue246,cM,cM,cM⟩
theorem Tryz.Builder_Extra_155:Builder.Extra prog Tryz.lays155_ren:={
  sizeBuilder:=cM
  liesBuilder:=cM
  t5:=underlying5
  a5:=isAgg5
  z5:=sizeOf5
  v5:=zeroValue5
  infoByte:=cM
  cellsByte:=cM
  sizeByte:=cM
  neB5:=by decide}
open Go.RowKit Go.Lib in
theorem Tryz.strings_ReplaceAll(s old new:ByteArray)(m:Int)(w:World)(hs:s.size<4294967281)(hm:w.cell? ⟨0,0,none⟩=some (.int .i64 m))(h1:1<=old.size)(hlen:s.size+Lib.countB s old * new.size<=140737488355328):
    Calls prog 236 #[.string s,.string old,.string new] w fun e w'=>
      e= .returned (.string ⟨(Lib.replaceAll s.data.toList old.data.toList new.data.toList).toArray⟩)/\Below w.heap.size w w':=Any.strings_ReplaceAll Tryz.lays155 Tryz.Builder_Extra_155 s old new m w hs hm h1 hlen
open Go.RowKit Go.Lib in
def Tryz.lays153_ren:Go.Shelf.Ren:=⟨fun |153=>212|152=>224|226=>225|227=>226|228=>227|137=>244|119=>246|224=>215|225=>214|217=>213|266=>228|n=>n,fun |9=>9|3=>3|4=>4|5=>5|21=>21|117=>268|116=>267|0=>0|46=>174|124=>281|n=>n,fun |n=>n⟩
theorem Tryz.lays153:Go.Proofs.Lays.n153 prog Tryz.lays153_ren:=⟨cM,func246.trans cN,func244.trans cN,func224.trans cN,func212.trans cN,func213.trans cN,func215.trans cN,func214.trans cN,func225.trans cN,func226.trans cN,func227.trans cN,func228.trans cN,underlying0,isAgg0,sizeOf0,zeroValue0,underlying3,isAgg3,sizeOf3,zeroValue3,underlying4,isAgg4,sizeOf4,zeroValue4,underlying5,isAgg5,sizeOf5,zeroValue5,underlying9,isAgg9,sizeOf9,zeroValue9,underlying21,isAgg21,sizeOf21,zeroValue21,underlying174,isAgg174,sizeOf174,zeroValue174,underlying267,isAgg267,sizeOf267,underlying268,isAgg268,sizeOf268,zeroValue268,underlying281,isAgg281,sizeOf281,zeroValue281⟩
open Go.RowKit Go.Lib in
theorem Tryz.strings_IndexAny_short(s chars:ByteArray)(w:World)(h2:2<=chars.size)(h8:s.size<=8)(hascii:∀(j:Nat) b,s.data.toList[j]?=some b->b.toNat<128):
    Calls prog 212 #[.string s,.string chars] w fun e w'=>e= .returned (.int .i64 (Lib.indexAny s.data.toList chars.data.toList))/\∃pos,w'=w.iter s pos:=Any.strings_IndexAny_short Tryz.lays153 s chars w h2 h8 hascii
open Go.RowKit Go.Lib in
def Tryz.lays110_ren:Go.Shelf.Ren:=⟨fun |110=>82|109=>110|n=>n,fun |31=>123|9=>9|4=>4|3=>3|0=>0|n=>n,fun |n=>n⟩
theorem Tryz.lays110:Go.Proofs.Lays.n110 prog Tryz.lays110_ren:=⟨cM,func110.trans cN,func82.trans cN,underlying0,isAgg0,sizeOf0,zeroValue0,underlying3,isAgg3,sizeOf3,zeroValue3,underlying4,isAgg4,sizeOf4,zeroValue4,underlying9,isAgg9,sizeOf9,zeroValue9,underlying123,isAgg123,sizeOf123,zeroValue123⟩
open Go.Lib in
theorem Tryz.slices_Contains_string(b off n c:Nat)(zs:List ByteArray)(x:ByteArray)(w:World)(hz:n<=zs.length)(hbig:n<=9223372036854775807)(hc:∀j,j<zs.length->w.cell? ⟨b,off+j,none⟩=some (.string (zs.getD j ByteArray.empty))):
    Calls prog 82 #[.slice (some ⟨b,off,none⟩) n c,.string x] w fun e w'=>e= .returned (.bool (Lib.containsS (zs.take n) x))/\w'=w:=Any.slices_Contains_string Tryz.lays110 b off n c zs x w hz hbig hc
def Tryz.laysSlH6_f217_ren:Go.Shelf.Ren:=⟨fun |6=>217|n=>n,fun |22=>123|23=>9|25=>108|3=>3|0=>0|4=>4|n=>n,fun |n=>n⟩
theorem Tryz.laysSlH6_f217:Go.Proofs.SlLaysH.n6 prog Tryz.laysSlH6_f217_ren:=⟨cM,⟨Tryz.f217.name,by decide,func217.trans cN⟩,underlying0,isAgg0,sizeOf0,zeroValue0,underlying3,isAgg3,sizeOf3,zeroValue3,underlying4,isAgg4,sizeOf4,zeroValue4,underlying123,isAgg123,sizeOf123,zeroValue123,isAgg9,sizeOf9,underlying108,isAgg108,sizeOf108,zeroValue108⟩
open Go.RowKit Go.Lib in
theorem Tryz.slices_IndexFunc{α:Type}[Inhabited α](enc:α->Value)(p:α->Bool)(g:Nat)(lb:Array Value)(eg:∀args w,(callFunc g args).run prog w= .ok (.enter g args) w)(b off n c:Nat)(zs:List α)(w:World)(hp:PredAt prog g lb enc p w)(hz:n<=zs.length)(hbig:n<=9223372036854775807)(hc:∀j,j<zs.length->w.cell? ⟨b,off+j,none⟩=some (enc zs[j]!)):
    Calls prog 217 #[.slice (some ⟨b,off,none⟩) n c,.func (.func g) #[] lb] w fun e w'=>e= .returned (.int .i64 (Lib.idxBy (fun _ y=>p y) (zs.take n) default))/\∃q,w'=w.drewN q:=AnyE.slices_IndexFunc Tryz.laysSlH6_f217 enc p g lb eg b off n c zs w hp hz hbig hc
open Go.RowKit in
theorem Tryz.strings_Trim_laid(s cutset:ByteArray)(w:World)(hs:s.size<=9223372036854775807)(hcs:cutset.size<4294967281)(hascii:∀(j:Nat) (b:UInt8),cutset.data.toList[j]?=some b->b.toNat<128):
    Calls prog 243 #[.string s,.string cutset] w fun e w'=>e= .returned (.string ⟨(Lib.trimS s.data.toList cutset.data.toList).toArray⟩)/\Below w.heap.size w w':=Any.strings_Trim_laid Tryz.lays160 (cM) s cutset w hs hcs hascii
def Tryz.lays167_ren:Go.Shelf.Ren:=⟨fun |167=>238|240=>196|276=>210|n=>n,fun |0=>0|4=>4|5=>5|9=>9|20=>20|37=>210|70=>230|72=>232|75=>234|80=>237|164=>246|n=>n,fun |n=>n⟩
theorem Tryz.lays167:Go.Proofs.Lays.n167 prog Tryz.lays167_ren:=⟨cM,func238.trans cN,func196.trans cN,func210.trans cN,underlying0,isAgg0,sizeOf0,zeroValue0,underlying4,isAgg4,sizeOf4,zeroValue4,underlying5,isAgg5,sizeOf5,zeroValue5,underlying9,isAgg9,sizeOf9,zeroValue9,underlying20,isAgg20,sizeOf20,zeroValue20,underlying210,isAgg210,sizeOf210,zeroValue210,underlying230,isAgg230,sizeOf230,zeroValue230,underlying232,isAgg232,sizeOf232,zeroValue232,underlying234,isAgg234,sizeOf234,zeroValue234,underlying246,isAgg246,sizeOf246,zeroValue246⟩
theorem Tryz.Builder_Extra_167:Builder.Extra prog Tryz.lays167_ren:={
  sizeBuilder:=cM
  liesBuilder:=cM
  t5:=underlying5
  a5:=isAgg5
  z5:=sizeOf5
  v5:=zeroValue5
  infoByte:=cM
  cellsByte:=cM
  sizeByte:=cM
  neB5:=by decide}
end Go.Proofs
