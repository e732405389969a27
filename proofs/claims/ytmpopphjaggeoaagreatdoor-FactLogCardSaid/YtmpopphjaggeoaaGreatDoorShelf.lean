/- Texts of this seat, joined. -/
import Derived.Test.YtmpopphjaggeoaaGreatDoorZb
import Derived.Shelf.Strings.Trim
import Derived.Shelf.Small.Wraps
import Derived.Shelf.Utf8.RuneCount
import Derived.Shelf.Strconv.Itoa3
import Derived.Shelf.Strconv.ErrVar
import Derived.Shelf.Strconv.ErrVarAll
import Derived.Shelf.Strconv.ParseInt10All
import Derived.Shelf.Strings.Shaped
import Derived.Shelf.GgClosure.StringsRunes
import Derived.Shelf.Strings.SplitShaped
import Derived.Shelf.Strings.Runes
import Derived.Shelf.Strings.AsciiSet
import Derived.Shelf.Strings.Explode
import Derived.Shelf.Strings.FieldsAny
import Derived.Shelf.Unicode.ExclAny
import Derived.Shelf.Strings.FieldsFuncGrows
import Derived.Shelf.Strings.BuilderCap
import Derived.Shelf.Slices.Turned
import Derived.Shelf.Slices.Clone
import Derived.Shelf.Slices.SearchI
import Derived.Shelf.Slices.Empties2
import Derived.Shelf.SlicesE.Index
import Derived.Shelf.SlicesE.Clone
import Derived.Shelf.SlicesE.IndexFunc
import Derived.Shelf.SlicesQ.Equal
import Derived.Shelf.SlicesQ.IndexFunc
import Derived.Shelf.SlSortCmp.NoneTotal
import Derived.Test.YtmpopphjaggeoaaGreatDoorProg
namespace Go.Proofs
open Go.Shelf
theorem CT{p:Prop}(h:p:=by kernel_rfl):p:=h
theorem DF{p:Prop}(h:p:=by decide):p:=h
def Tryz.lays169_ren:Go.Shelf.Ren:=⟨fun|169=>91|n=>n,fun|70=>129|9=>9|0=>0|72=>131|37=>127|127=>193|3=>3|5=>5|n=>n,fun|n=>n⟩
theorem Tryz.lays169:Go.Proofs.Lays.n169 Tryz.prog Tryz.lays169_ren:={
 mixed:=CT
 f169:=Tryz.func91.trans (congrArg some CT)
 t0:=Tryz.underlying0
 a0:=Tryz.isAgg0
 z0:=Tryz.sizeOf0
 v0:=Tryz.zeroValue0
 t3:=Tryz.underlying3
 a3:=Tryz.isAgg3
 z3:=Tryz.sizeOf3
 v3:=Tryz.zeroValue3
 t9:=Tryz.underlying9
 a9:=Tryz.isAgg9
 z9:=Tryz.sizeOf9
 v9:=Tryz.zeroValue9
 t37:=Tryz.underlying127
 a37:=Tryz.isAgg127
 z37:=Tryz.sizeOf127
 v37:=Tryz.zeroValue127
 t70:=Tryz.underlying129
 a70:=Tryz.isAgg129
 z70:=Tryz.sizeOf129
 v70:=Tryz.zeroValue129
 t72:=Tryz.underlying131
 a72:=Tryz.isAgg131
 z72:=Tryz.sizeOf131
 v72:=Tryz.zeroValue131
 t127:=Tryz.underlying193
 a127:=Tryz.isAgg193
 z127:=Tryz.sizeOf193
 v127:=Tryz.zeroValue193}
theorem Tryz.Builder_Extra_169:Builder.Extra Tryz.prog Tryz.lays169_ren:={
 sizeBuilder:=CT
 liesBuilder:=CT
 t5:=Tryz.underlying5
 a5:=Tryz.isAgg5
 z5:=Tryz.sizeOf5
 v5:=Tryz.zeroValue5
 infoByte:=CT
 cellsByte:=CT
 sizeByte:=CT
 neB5:=DF}
open Go.RowKit in
theorem Tryz.Builder_String_any(B b:Nat)(l:List UInt8)(w:World)(h:Lib.IsBuilder 131 5 B b (Lib.byteCells l) w)(hBw:B<=w.heap.size):
  Calls Tryz.prog 91 #[.pointer (some ⟨b,0,none⟩)] w fun e w'=>e=.returned (.string ⟨l.toArray⟩)/\Below B w w':=Any.Builder_String_any Tryz.lays169 Tryz.Builder_Extra_169 B b l w h hBw
def Tryz.lays160_ren:Go.Shelf.Ren:=⟨fun|160=>250|232=>285|231=>284|227=>286|234=>288|233=>287|236=>290|235=>289|228=>311|271=>312|151=>253|197=>220|120=>325|152=>292|260=>254|137=>149|119=>314|224=>256|225=>255|217=>198|266=>232|n=>n,fun|9=>9|4=>4|3=>3|5=>5|117=>347|116=>346|0=>0|124=>350|21=>21|105=>273|46=>165|119=>300|139=>355|138=>354|n=>n,fun|3=>6|4=>7|n=>n⟩
theorem Tryz.lays160:Go.Proofs.Lays.n160 Tryz.prog Tryz.lays160_ren:={
 mixed:=CT
 f119:=Tryz.func314.trans (congrArg some CT)
 f120:=Tryz.func325.trans (congrArg some CT)
 f137:=Tryz.func149.trans (congrArg some CT)
 f151:=Tryz.func253.trans (congrArg some CT)
 f152:=Tryz.func292.trans (congrArg some CT)
 f160:=Tryz.func250.trans (congrArg some CT)
 f197:=Tryz.func220.trans (congrArg some CT)
 f217:=Tryz.func198.trans (congrArg some CT)
 f224:=Tryz.func256.trans (congrArg some CT)
 f225:=Tryz.func255.trans (congrArg some CT)
 f227:=Tryz.func286.trans (congrArg some CT)
 f228:=Tryz.func311.trans (congrArg some CT)
 f231:=Tryz.func284.trans (congrArg some CT)
 f232:=Tryz.func285.trans (congrArg some CT)
 f233:=Tryz.func287.trans (congrArg some CT)
 f234:=Tryz.func288.trans (congrArg some CT)
 f235:=Tryz.func289.trans (congrArg some CT)
 f236:=Tryz.func290.trans (congrArg some CT)
 f260:=Tryz.func254.trans (congrArg some CT)
 f266:=Tryz.func232.trans (congrArg some CT)
 f271:=Tryz.func312.trans (congrArg some CT)
 t0:=Tryz.underlying0
 a0:=Tryz.isAgg0
 z0:=Tryz.sizeOf0
 v0:=Tryz.zeroValue0
 t3:=Tryz.underlying3
 a3:=Tryz.isAgg3
 z3:=Tryz.sizeOf3
 v3:=Tryz.zeroValue3
 t4:=Tryz.underlying4
 a4:=Tryz.isAgg4
 z4:=Tryz.sizeOf4
 v4:=Tryz.zeroValue4
 t5:=Tryz.underlying5
 a5:=Tryz.isAgg5
 z5:=Tryz.sizeOf5
 v5:=Tryz.zeroValue5
 t9:=Tryz.underlying9
 a9:=Tryz.isAgg9
 z9:=Tryz.sizeOf9
 v9:=Tryz.zeroValue9
 t21:=Tryz.underlying21
 a21:=Tryz.isAgg21
 z21:=Tryz.sizeOf21
 v21:=Tryz.zeroValue21
 t46:=Tryz.underlying165
 a46:=Tryz.isAgg165
 z46:=Tryz.sizeOf165
 v46:=Tryz.zeroValue165
 t105:=Tryz.underlying273
 a105:=Tryz.isAgg273
 z105:=Tryz.sizeOf273
 v105:=Tryz.zeroValue273
 t116:=Tryz.underlying346
 a116:=Tryz.isAgg346
 z116:=Tryz.sizeOf346
 t117:=Tryz.underlying347
 a117:=Tryz.isAgg347
 z117:=Tryz.sizeOf347
 v117:=Tryz.zeroValue347
 t119:=Tryz.underlying300
 a119:=Tryz.isAgg300
 z119:=Tryz.sizeOf300
 t124:=Tryz.underlying350
 a124:=Tryz.isAgg350
 z124:=Tryz.sizeOf350
 v124:=Tryz.zeroValue350
 t138:=Tryz.underlying354
 a138:=Tryz.isAgg354
 z138:=Tryz.sizeOf354
 v138:=Tryz.zeroValue354
 t139:=Tryz.underlying355
 a139:=Tryz.isAgg355
 z139:=Tryz.sizeOf355
 v139:=Tryz.zeroValue355
 g3:=CT
 g4:=CT}
def Tryz.lays137_ren:Go.Shelf.Ren:=⟨fun|137=>149|217=>198|266=>232|n=>n,fun|9=>9|5=>5|3=>3|n=>n,fun|n=>n⟩
theorem Tryz.lays137:Go.Proofs.Lays.n137 Tryz.prog Tryz.lays137_ren:={
 mixed:=CT
 f137:=Tryz.func149.trans (congrArg some CT)
 f217:=Tryz.func198.trans (congrArg some CT)
 f266:=Tryz.func232.trans (congrArg some CT)
 t3:=Tryz.underlying3
 a3:=Tryz.isAgg3
 z3:=Tryz.sizeOf3
 v3:=Tryz.zeroValue3
 t5:=Tryz.underlying5
 a5:=Tryz.isAgg5
 z5:=Tryz.sizeOf5
 v5:=Tryz.zeroValue5
 t9:=Tryz.underlying9
 a9:=Tryz.isAgg9
 z9:=Tryz.sizeOf9
 v9:=Tryz.zeroValue9}
open Go.RowKit in
theorem Tryz.strings_IndexByte(s:bA)(c:Int)(w:World):
  Calls Tryz.prog 149 #[.string s,.int .u8 c] w fun e w'=>e=.returned (.int .i64 (Lib.indexByte s.data.toList c.toNat.toUInt8))/\w'=w:=Any.strings_IndexByte Tryz.lays137 s c w
def Tryz.lays103_ren:Go.Shelf.Ren:=⟨fun|103=>151|210=>201|206=>238|n=>n,fun|9=>9|4=>4|24=>49|3=>3|n=>n,fun|n=>n⟩
theorem Tryz.lays103:Go.Proofs.Lays.n103 Tryz.prog Tryz.lays103_ren:={
 mixed:=CT
 f103:=Tryz.func151.trans (congrArg some CT)
 f206:=Tryz.func238.trans (congrArg some CT)
 f210:=Tryz.func201.trans (congrArg some CT)
 t3:=Tryz.underlying3
 a3:=Tryz.isAgg3
 z3:=Tryz.sizeOf3
 v3:=Tryz.zeroValue3
 t4:=Tryz.underlying4
 a4:=Tryz.isAgg4
 z4:=Tryz.sizeOf4
 v4:=Tryz.zeroValue4
 t9:=Tryz.underlying9
 a9:=Tryz.isAgg9
 z9:=Tryz.sizeOf9
 v9:=Tryz.zeroValue9
 t24:=Tryz.underlying49
 a24:=Tryz.isAgg49
 z24:=Tryz.sizeOf49
 v24:=Tryz.zeroValue49}
open Go.RowKit in
theorem Tryz.strings_CutPrefix(s p:bA)(w:World):
  Calls Tryz.prog 151 #[.string s,.string p] w fun e w'=>e=.returned (.tuple #[.string ⟨(Lib.trimPrefix s.data.toList p.data.toList).toArray⟩,.bool (Lib.hasPrefix s.data.toList p.data.toList)])/\w'=w:=Any.strings_CutPrefix Tryz.lays103 s p w
def Tryz.lays122_ren:Go.Shelf.Ren:=⟨fun|122=>61|215=>113|n=>n,fun|3=>3|4=>4|n=>n,fun|n=>n⟩
theorem Tryz.lays122:Go.Proofs.Lays.n122 Tryz.prog Tryz.lays122_ren:={
 mixed:=CT
 f122:=Tryz.func61.trans (congrArg some CT)
 f215:=Tryz.func113.trans (congrArg some CT)
 t3:=Tryz.underlying3
 a3:=Tryz.isAgg3
 z3:=Tryz.sizeOf3
 v3:=Tryz.zeroValue3
 t4:=Tryz.underlying4
 a4:=Tryz.isAgg4
 z4:=Tryz.sizeOf4
 v4:=Tryz.zeroValue4}
open Go.RowKit in
theorem Tryz.cmp_Compare_int(x y:Int)(w:World):
  Calls Tryz.prog 61 #[.int .i64 x,.int .i64 y] w fun e w'=>e=.returned (.int .i64 (Lib.compareInt x y))/\w'=w:=Any.cmp_Compare_int Tryz.lays122 x y w
def Tryz.laysM171_ren:Go.Shelf.Ren:=⟨fun|171=>87|243=>142|246=>193|283=>224|284=>225|285=>226|286=>227|129=>172|317=>266|318=>267|319=>268|320=>269|337=>297|338=>298|n=>n,fun|3=>3|9=>9|2=>2|4=>4|171=>276|0=>0|53=>226|37=>127|5=>5|173=>278|212=>320|51=>224|20=>20|213=>321|46=>165|232=>380|233=>381|n=>n,fun|17=>2|18=>9|19=>10|n=>n⟩
theorem Tryz.laysM171:Go.Proofs.LaysM.n171 Tryz.prog Tryz.laysM171_ren:={
 mixed:=CT
 f129:=Tryz.func172.trans (congrArg some CT)
 f171:=Tryz.func87.trans (congrArg some CT)
 f243:=Tryz.func142.trans (congrArg some CT)
 f246:=Tryz.func193.trans (congrArg some CT)
 f283:=Tryz.func224.trans (congrArg some CT)
 f284:=Tryz.func225.trans (congrArg some CT)
 f285:=Tryz.func226.trans (congrArg some CT)
 f286:=Tryz.func227.trans (congrArg some CT)
 f317:=Tryz.func266.trans (congrArg some CT)
 f318:=Tryz.func267.trans (congrArg some CT)
 f319:=Tryz.func268.trans (congrArg some CT)
 f320:=Tryz.func269.trans (congrArg some CT)
 f337:=Tryz.func297.trans (congrArg some CT)
 f338:=Tryz.func298.trans (congrArg some CT)
 t0:=Tryz.underlying0
 a0:=Tryz.isAgg0
 z0:=Tryz.sizeOf0
 v0:=Tryz.zeroValue0
 t2:=Tryz.underlying2
 a2:=Tryz.isAgg2
 z2:=Tryz.sizeOf2
 v2:=Tryz.zeroValue2
 t3:=Tryz.underlying3
 a3:=Tryz.isAgg3
 z3:=Tryz.sizeOf3
 v3:=Tryz.zeroValue3
 t4:=Tryz.underlying4
 a4:=Tryz.isAgg4
 z4:=Tryz.sizeOf4
 v4:=Tryz.zeroValue4
 t5:=Tryz.underlying5
 a5:=Tryz.isAgg5
 z5:=Tryz.sizeOf5
 v5:=Tryz.zeroValue5
 t9:=Tryz.underlying9
 a9:=Tryz.isAgg9
 z9:=Tryz.sizeOf9
 v9:=Tryz.zeroValue9
 t20:=Tryz.underlying20
 a20:=Tryz.isAgg20
 z20:=Tryz.sizeOf20
 v20:=Tryz.zeroValue20
 t37:=Tryz.underlying127
 a37:=Tryz.isAgg127
 z37:=Tryz.sizeOf127
 v37:=Tryz.zeroValue127
 t46:=Tryz.underlying165
 a46:=Tryz.isAgg165
 z46:=Tryz.sizeOf165
 v46:=Tryz.zeroValue165
 t51:=Tryz.underlying224
 a51:=Tryz.isAgg224
 z51:=Tryz.sizeOf224
 v51:=Tryz.zeroValue224
 t53:=Tryz.underlying226
 a53:=Tryz.isAgg226
 z53:=Tryz.sizeOf226
 v53:=Tryz.zeroValue226
 t171:=Tryz.underlying276
 a171:=Tryz.isAgg276
 z171:=Tryz.sizeOf276
 v171:=Tryz.zeroValue276
 t173:=Tryz.underlying278
 a173:=Tryz.isAgg278
 z173:=Tryz.sizeOf278
 v173:=Tryz.zeroValue278
 t212:=Tryz.underlying320
 a212:=Tryz.isAgg320
 z212:=Tryz.sizeOf320
 v212:=Tryz.zeroValue320
 t213:=Tryz.underlying321
 a213:=Tryz.isAgg321
 z213:=Tryz.sizeOf321
 t232:=Tryz.underlying380
 a232:=Tryz.isAgg380
 z232:=Tryz.sizeOf380
 v232:=Tryz.zeroValue380
 t233:=Tryz.underlying381
 a233:=Tryz.isAgg381
 z233:=Tryz.sizeOf381
 v233:=Tryz.zeroValue381
 g17:=CT
 g18:=CT
 g19:=CT
 i0:=CT
 i2:=CT
 i3:=CT
 i4:=CT
 i5:=CT
 i9:=CT
 i20:=CT
 i37:=CT
 i46:=CT
 i51:=CT
 i53:=CT
 i171:=CT
 i173:=CT
 i212:=CT
 i232:=CT
 i233:=CT
 m17:=CT
 m18:=CT
 m19:=CT}
open Go.RowKit Go.Sort Go.Lib in
theorem Tryz.strconv_Itoa(n:Int)(h0: -9223372036854775808<=n)(h1:n<=9223372036854775807)(w:World)(htab:Lib.TabIs Tryz.prog w "internal/strconv.uint64pow10" .u64 Lib.pow10Tab):
  Calls Tryz.prog 87 #[.int .i64 n] w fun e w'=>e=.returned (.string ⟨(Lib.itoa n).toArray⟩)/\∃k os,w'=grow (w.drewN k) os:=Any.strconv_Itoa Tryz.laysM171 n h0 h1 w htab
def Tryz.laysC172_ren:Go.Shelf.Ren:=⟨fun|172=>150|244=>199|245=>200|247=>233|279=>234|280=>235|281=>236|282=>237|287=>272|316=>273|171=>87|205=>274|321=>300|322=>301|243=>142|246=>193|283=>224|284=>225|285=>226|286=>227|129=>172|317=>266|318=>267|319=>268|320=>269|337=>297|338=>298|n=>n,fun|9=>9|3=>3|75=>133|76=>134|4=>4|5=>5|167=>282|37=>127|0=>0|85=>283|2=>2|168=>285|53=>226|175=>323|46=>165|210=>326|127=>193|145=>368|143=>366|21=>21|171=>276|173=>278|212=>320|51=>224|20=>20|213=>321|232=>380|233=>381|80=>89|n=>n,fun|15=>4|16=>5|17=>2|18=>9|19=>10|n=>n⟩
theorem Tryz.laysC172:Go.Proofs.LaysC.n172 Tryz.prog Tryz.laysC172_ren:={
 mixed:=CT
 f129:=Tryz.func172.trans (congrArg some CT)
 f171:=Tryz.func87.trans (congrArg some CT)
 f172:=Tryz.func150.trans (congrArg some CT)
 f205:=Tryz.func274.trans (congrArg some CT)
 f243:=Tryz.func142.trans (congrArg some CT)
 f244:=Tryz.func199.trans (congrArg some CT)
 f245:=Tryz.func200.trans (congrArg some CT)
 f246:=Tryz.func193.trans (congrArg some CT)
 f247:=Tryz.func233.trans (congrArg some CT)
 f279:=Tryz.func234.trans (congrArg some CT)
 f280:=Tryz.func235.trans (congrArg some CT)
 f281:=Tryz.func236.trans (congrArg some CT)
 f282:=Tryz.func237.trans (congrArg some CT)
 f283:=Tryz.func224.trans (congrArg some CT)
 f284:=Tryz.func225.trans (congrArg some CT)
 f285:=Tryz.func226.trans (congrArg some CT)
 f286:=Tryz.func227.trans (congrArg some CT)
 f287:=Tryz.func272.trans (congrArg some CT)
 f316:=Tryz.func273.trans (congrArg some CT)
 f317:=Tryz.func266.trans (congrArg some CT)
 f318:=Tryz.func267.trans (congrArg some CT)
 f319:=Tryz.func268.trans (congrArg some CT)
 f320:=Tryz.func269.trans (congrArg some CT)
 f321:=Tryz.func300.trans (congrArg some CT)
 f322:=Tryz.func301.trans (congrArg some CT)
 f337:=Tryz.func297.trans (congrArg some CT)
 f338:=Tryz.func298.trans (congrArg some CT)
 t0:=Tryz.underlying0
 a0:=Tryz.isAgg0
 z0:=Tryz.sizeOf0
 v0:=Tryz.zeroValue0
 t2:=Tryz.underlying2
 a2:=Tryz.isAgg2
 z2:=Tryz.sizeOf2
 v2:=Tryz.zeroValue2
 t3:=Tryz.underlying3
 a3:=Tryz.isAgg3
 z3:=Tryz.sizeOf3
 v3:=Tryz.zeroValue3
 t4:=Tryz.underlying4
 a4:=Tryz.isAgg4
 z4:=Tryz.sizeOf4
 v4:=Tryz.zeroValue4
 t5:=Tryz.underlying5
 a5:=Tryz.isAgg5
 z5:=Tryz.sizeOf5
 v5:=Tryz.zeroValue5
 t9:=Tryz.underlying9
 a9:=Tryz.isAgg9
 z9:=Tryz.sizeOf9
 v9:=Tryz.zeroValue9
 t20:=Tryz.underlying20
 a20:=Tryz.isAgg20
 z20:=Tryz.sizeOf20
 v20:=Tryz.zeroValue20
 t21:=Tryz.underlying21
 a21:=Tryz.isAgg21
 z21:=Tryz.sizeOf21
 v21:=Tryz.zeroValue21
 t37:=Tryz.underlying127
 a37:=Tryz.isAgg127
 z37:=Tryz.sizeOf127
 v37:=Tryz.zeroValue127
 t46:=Tryz.underlying165
 a46:=Tryz.isAgg165
 z46:=Tryz.sizeOf165
 v46:=Tryz.zeroValue165
 t51:=Tryz.underlying224
 a51:=Tryz.isAgg224
 z51:=Tryz.sizeOf224
 v51:=Tryz.zeroValue224
 t53:=Tryz.underlying226
 a53:=Tryz.isAgg226
 z53:=Tryz.sizeOf226
 v53:=Tryz.zeroValue226
 t75:=Tryz.underlying133
 a75:=Tryz.isAgg133
 z75:=Tryz.sizeOf133
 v75:=Tryz.zeroValue133
 t76:=Tryz.underlying134
 a76:=Tryz.isAgg134
 z76:=Tryz.sizeOf134
 v76:=Tryz.zeroValue134
 t85:=Tryz.underlying283
 a85:=Tryz.isAgg283
 z85:=Tryz.sizeOf283
 v85:=Tryz.zeroValue283
 t127:=Tryz.underlying193
 a127:=Tryz.isAgg193
 z127:=Tryz.sizeOf193
 v127:=Tryz.zeroValue193
 t143:=Tryz.underlying366
 a143:=Tryz.isAgg366
 z143:=Tryz.sizeOf366
 v143:=Tryz.zeroValue366
 t145:=Tryz.underlying368
 a145:=Tryz.isAgg368
 z145:=Tryz.sizeOf368
 v145:=Tryz.zeroValue368
 t167:=Tryz.underlying282
 a167:=Tryz.isAgg282
 z167:=Tryz.sizeOf282
 v167:=Tryz.zeroValue282
 t168:=Tryz.underlying285
 a168:=Tryz.isAgg285
 z168:=Tryz.sizeOf285
 v168:=Tryz.zeroValue285
 t171:=Tryz.underlying276
 a171:=Tryz.isAgg276
 z171:=Tryz.sizeOf276
 v171:=Tryz.zeroValue276
 t173:=Tryz.underlying278
 a173:=Tryz.isAgg278
 z173:=Tryz.sizeOf278
 v173:=Tryz.zeroValue278
 t175:=Tryz.underlying323
 a175:=Tryz.isAgg323
 z175:=Tryz.sizeOf323
 v175:=Tryz.zeroValue323
 t210:=Tryz.underlying326
 a210:=Tryz.isAgg326
 z210:=Tryz.sizeOf326
 v210:=Tryz.zeroValue326
 t212:=Tryz.underlying320
 a212:=Tryz.isAgg320
 z212:=Tryz.sizeOf320
 v212:=Tryz.zeroValue320
 t213:=Tryz.underlying321
 a213:=Tryz.isAgg321
 z213:=Tryz.sizeOf321
 t232:=Tryz.underlying380
 a232:=Tryz.isAgg380
 z232:=Tryz.sizeOf380
 v232:=Tryz.zeroValue380
 t233:=Tryz.underlying381
 a233:=Tryz.isAgg381
 z233:=Tryz.sizeOf381
 v233:=Tryz.zeroValue381
 g15:=CT
 g16:=CT
 g17:=CT
 g18:=CT
 g19:=CT
 t80:=Tryz.underlying89
 a80:=Tryz.isAgg89
 z80:=Tryz.sizeOf89
 v80:=Tryz.zeroValue89
 i0:=CT
 i2:=CT
 i3:=CT
 i4:=CT
 i5:=CT
 i9:=CT
 i20:=CT
 i21:=CT
 i37:=CT
 i46:=CT
 i51:=CT
 i53:=CT
 i75:=CT
 i76:=CT
 i80:=CT
 i85:=CT
 i127:=CT
 i143:=CT
 i145:=CT
 i167:=CT
 i168:=CT
 i171:=CT
 i173:=CT
 i175:=CT
 i210:=CT
 i212:=CT
 i232:=CT
 i233:=CT
 m15:=CT
 m16:=CT
 m17:=CT
 m18:=CT
 m19:=CT
 c0:=CT
 c2:=CT
 c3:=CT
 c4:=CT
 c5:=CT
 c9:=CT
 c20:=CT
 c21:=CT
 c37:=CT
 c46:=CT
 c51:=CT
 c53:=CT
 c75:=CT
 c76:=CT
 c80:=CT
 c85:=CT
 c127:=CT
 c143:=CT
 c145:=CT
 c167:=CT
 c168:=CT
 c171:=CT
 c173:=CT
 c175:=CT
 c210:=CT
 c212:=CT
 c213:=CT
 c232:=CT
 c233:=CT}
open Go.RowKit in
theorem Tryz.strconv_Atoi_ok(s:bA)(hmax:s.size<=9223372036854775806)(v:Int)(h:Lib.atoiAll s.data.toList=.ok v)(w:World):
  Calls Tryz.prog 150 #[.string s] w fun e w'=>e=.returned (.tuple #[.int .i64 v,.nilIface])/\(w'=w\/∃t,w'=Lib.bytesWorld w 5 t):=Any.strconv_Atoi_ok Tryz.laysC172 s hmax v h w
open Go.RowKit in
theorem Tryz.strconv_Atoi_syntax_var(s:bA)(zH:s.size<=281474976710656)(h:Lib.atoiAll s.data.toList=Lib.NumEnd.syntax)(tp:TypeId)(p:Value)(w:World)(yU:w.var? Tryz.prog "strconv.ErrSyntax" =some #[.iface tp p]):
  Calls Tryz.prog 150 #[.string s] w fun e w'=>∃N,e=.returned (.tuple #[.int .i64 0,.iface 285 (.pointer (some ⟨N,0,none⟩))])/\w.heap.size<=N/\w'.heap[N]? =some (.cells #[.string ⟨#[65,116,111,105]⟩,.string s,.iface tp p] 326 (0,0))/\Below w.heap.size w w':=Any.strconv_Atoi_syntax_var Tryz.laysC172 s zH h tp p w yU
open Go.RowKit in
theorem Tryz.strconv_Atoi_range_var(s:bA)(zH:s.size<=281474976710656)(h:Lib.atoiAll s.data.toList=.range)(tp:TypeId)(p:Value)(w:World)(yU:w.var? Tryz.prog "strconv.ErrRange" =some #[.iface tp p]):
  Calls Tryz.prog 150 #[.string s] w fun e w'=>∃N,e=.returned (.tuple #[.int .i64 (Lib.atoiSat s.data.toList),.iface 285 (.pointer (some ⟨N,0,none⟩))])/\w.heap.size<=N/\w'.heap[N]? =some (.cells #[.string ⟨#[65,116,111,105]⟩,.string s,.iface tp p] 326 (0,0))/\Below w.heap.size w w':=Any.strconv_Atoi_range_var Tryz.laysC172 s zH h tp p w yU
def Tryz.lays144_ren:Go.Shelf.Ren:=⟨fun|144=>140|143=>182|219=>222|217=>198|225=>255|224=>256|267=>257|266=>232|314=>293|n=>n,fun|9=>9|4=>4|3=>3|5=>5|46=>165|146=>356|51=>224|n=>n,fun|1=>1|n=>n⟩
theorem Tryz.lays144:Go.Proofs.Lays.n144 Tryz.prog Tryz.lays144_ren:={
 mixed:=CT
 f143:=Tryz.func182.trans (congrArg some CT)
 f144:=Tryz.func140.trans (congrArg some CT)
 f217:=Tryz.func198.trans (congrArg some CT)
 f219:=Tryz.func222.trans (congrArg some CT)
 f224:=Tryz.func256.trans (congrArg some CT)
 f225:=Tryz.func255.trans (congrArg some CT)
 f266:=Tryz.func232.trans (congrArg some CT)
 f267:=Tryz.func257.trans (congrArg some CT)
 f314:=Tryz.func293.trans (congrArg some CT)
 t3:=Tryz.underlying3
 a3:=Tryz.isAgg3
 z3:=Tryz.sizeOf3
 v3:=Tryz.zeroValue3
 t4:=Tryz.underlying4
 a4:=Tryz.isAgg4
 z4:=Tryz.sizeOf4
 v4:=Tryz.zeroValue4
 t5:=Tryz.underlying5
 a5:=Tryz.isAgg5
 z5:=Tryz.sizeOf5
 v5:=Tryz.zeroValue5
 t9:=Tryz.underlying9
 a9:=Tryz.isAgg9
 z9:=Tryz.sizeOf9
 v9:=Tryz.zeroValue9
 t46:=Tryz.underlying165
 a46:=Tryz.isAgg165
 z46:=Tryz.sizeOf165
 v46:=Tryz.zeroValue165
 t51:=Tryz.underlying224
 a51:=Tryz.isAgg224
 z51:=Tryz.sizeOf224
 v51:=Tryz.zeroValue224
 t146:=Tryz.underlying356
 a146:=Tryz.isAgg356
 z146:=Tryz.sizeOf356
 v146:=Tryz.zeroValue356
 g1:=CT}
open Go.RowKit Go.Lib in
theorem Tryz.strings_Contains(s sub:bA)(m:Int)(w:World)(hs:s.size<4294967281)(hm:w.cell? ⟨1,0,none⟩=some (.int .i64 m)):
  Calls Tryz.prog 140 #[.string s,.string sub] w fun e w'=>e=.returned (.bool (Lib.contains s.data.toList sub.data.toList))/\w'=w:=Any.strings_Contains Tryz.lays144 s sub m w hs hm
def Tryz.lays138_ren:Go.Shelf.Ren:=⟨fun|138=>181|195=>219|218=>221|143=>182|219=>222|217=>198|225=>255|224=>256|267=>257|266=>232|314=>293|n=>n,fun|9=>9|3=>3|4=>4|5=>5|0=>0|46=>165|146=>356|51=>224|n=>n,fun|1=>1|n=>n⟩
theorem Tryz.lays138:Go.Proofs.Lays.n138 Tryz.prog Tryz.lays138_ren:={
 mixed:=CT
 f138:=Tryz.func181.trans (congrArg some CT)
 f143:=Tryz.func182.trans (congrArg some CT)
 f195:=Tryz.func219.trans (congrArg some CT)
 f217:=Tryz.func198.trans (congrArg some CT)
 f218:=Tryz.func221.trans (congrArg some CT)
 f219:=Tryz.func222.trans (congrArg some CT)
 f224:=Tryz.func256.trans (congrArg some CT)
 f225:=Tryz.func255.trans (congrArg some CT)
 f266:=Tryz.func232.trans (congrArg some CT)
 f267:=Tryz.func257.trans (congrArg some CT)
 f314:=Tryz.func293.trans (congrArg some CT)
 t0:=Tryz.underlying0
 a0:=Tryz.isAgg0
 z0:=Tryz.sizeOf0
 v0:=Tryz.zeroValue0
 t3:=Tryz.underlying3
 a3:=Tryz.isAgg3
 z3:=Tryz.sizeOf3
 v3:=Tryz.zeroValue3
 t4:=Tryz.underlying4
 a4:=Tryz.isAgg4
 z4:=Tryz.sizeOf4
 v4:=Tryz.zeroValue4
 t5:=Tryz.underlying5
 a5:=Tryz.isAgg5
 z5:=Tryz.sizeOf5
 v5:=Tryz.zeroValue5
 t9:=Tryz.underlying9
 a9:=Tryz.isAgg9
 z9:=Tryz.sizeOf9
 v9:=Tryz.zeroValue9
 t46:=Tryz.underlying165
 a46:=Tryz.isAgg165
 z46:=Tryz.sizeOf165
 v46:=Tryz.zeroValue165
 t51:=Tryz.underlying224
 a51:=Tryz.isAgg224
 z51:=Tryz.sizeOf224
 v51:=Tryz.zeroValue224
 t146:=Tryz.underlying356
 a146:=Tryz.isAgg356
 z146:=Tryz.sizeOf356
 v146:=Tryz.zeroValue356
 g1:=CT}
open Go.RowKit Go.Lib in
theorem Tryz.strings_Count_one(s:bA)(c:UInt8)(w:World):
  Calls Tryz.prog 181 #[.string s,.string ⟨#[c]⟩] w fun e w'=>e=.returned (.int .i64 (Lib.countByte s.data.toList c))/\w'=w:=Any.strings_Count_one Tryz.lays138 s c w
def Tryz.lays146_ren:Go.Shelf.Ren:=⟨fun|146=>83|221=>137|268=>180|138=>181|143=>182|195=>219|197=>220|218=>221|219=>222|260=>254|217=>198|225=>255|224=>256|267=>257|266=>232|314=>293|n=>n,fun|9=>9|31=>26|3=>3|4=>4|0=>0|105=>273|21=>21|5=>5|46=>165|119=>300|139=>355|138=>354|146=>356|51=>224|n=>n,fun|1=>1|3=>6|4=>7|n=>n⟩
theorem Tryz.lays146:Go.Proofs.Lays.n146 Tryz.prog Tryz.lays146_ren:={
 mixed:=CT
 f138:=Tryz.func181.trans (congrArg some CT)
 f143:=Tryz.func182.trans (congrArg some CT)
 f146:=Tryz.func83.trans (congrArg some CT)
 f195:=Tryz.func219.trans (congrArg some CT)
 f197:=Tryz.func220.trans (congrArg some CT)
 f217:=Tryz.func198.trans (congrArg some CT)
 f218:=Tryz.func221.trans (congrArg some CT)
 f219:=Tryz.func222.trans (congrArg some CT)
 f221:=Tryz.func137.trans (congrArg some CT)
 f224:=Tryz.func256.trans (congrArg some CT)
 f225:=Tryz.func255.trans (congrArg some CT)
 f260:=Tryz.func254.trans (congrArg some CT)
 f266:=Tryz.func232.trans (congrArg some CT)
 f267:=Tryz.func257.trans (congrArg some CT)
 f268:=Tryz.func180.trans (congrArg some CT)
 f314:=Tryz.func293.trans (congrArg some CT)
 t0:=Tryz.underlying0
 a0:=Tryz.isAgg0
 z0:=Tryz.sizeOf0
 v0:=Tryz.zeroValue0
 t3:=Tryz.underlying3
 a3:=Tryz.isAgg3
 z3:=Tryz.sizeOf3
 v3:=Tryz.zeroValue3
 t4:=Tryz.underlying4
 a4:=Tryz.isAgg4
 z4:=Tryz.sizeOf4
 v4:=Tryz.zeroValue4
 t5:=Tryz.underlying5
 a5:=Tryz.isAgg5
 z5:=Tryz.sizeOf5
 v5:=Tryz.zeroValue5
 t9:=Tryz.underlying9
 a9:=Tryz.isAgg9
 z9:=Tryz.sizeOf9
 v9:=Tryz.zeroValue9
 t21:=Tryz.underlying21
 a21:=Tryz.isAgg21
 z21:=Tryz.sizeOf21
 v21:=Tryz.zeroValue21
 t31:=Tryz.underlying26
 a31:=Tryz.isAgg26
 z31:=Tryz.sizeOf26
 v31:=Tryz.zeroValue26
 t46:=Tryz.underlying165
 a46:=Tryz.isAgg165
 z46:=Tryz.sizeOf165
 v46:=Tryz.zeroValue165
 t51:=Tryz.underlying224
 a51:=Tryz.isAgg224
 z51:=Tryz.sizeOf224
 v51:=Tryz.zeroValue224
 t105:=Tryz.underlying273
 a105:=Tryz.isAgg273
 z105:=Tryz.sizeOf273
 v105:=Tryz.zeroValue273
 t119:=Tryz.underlying300
 a119:=Tryz.isAgg300
 z119:=Tryz.sizeOf300
 t138:=Tryz.underlying354
 a138:=Tryz.isAgg354
 z138:=Tryz.sizeOf354
 v138:=Tryz.zeroValue354
 t139:=Tryz.underlying355
 a139:=Tryz.isAgg355
 z139:=Tryz.sizeOf355
 v139:=Tryz.zeroValue355
 t146:=Tryz.underlying356
 a146:=Tryz.isAgg356
 z146:=Tryz.sizeOf356
 v146:=Tryz.zeroValue356
 g1:=CT
 g3:=CT
 g4:=CT}
open Go.RowKit Go.Lib in
theorem Tryz.strings_Split(s sep:bA)(m:Int)(w:World)(hs:s.size<4294967281)(hm:w.cell? ⟨1,0,none⟩=some (.int .i64 m))(h1:1<=sep.size):
  Calls Tryz.prog 83 #[.string s,.string sep] w fun e w'=>
   e=.returned (.slice (some ⟨w.heap.size,0,none⟩) (Lib.countB s sep+1) (Lib.countB s sep+1))/\w'=w.alloc (.cells ((Lib.splitB sep 0 (Lib.countB s sep) s).map Value.string).toArray 9):=Any.strings_Split Tryz.lays146 CT s sep m w hs hm h1
def Tryz.lays151_ren:Go.Shelf.Ren:=⟨fun|151=>253|152=>292|137=>149|119=>314|224=>256|225=>255|217=>198|266=>232|n=>n,fun|9=>9|21=>21|4=>4|3=>3|5=>5|0=>0|46=>165|n=>n,fun|n=>n⟩
theorem Tryz.lays151:Go.Proofs.Lays.n151 Tryz.prog Tryz.lays151_ren:={
 mixed:=CT
 f119:=Tryz.func314.trans (congrArg some CT)
 f137:=Tryz.func149.trans (congrArg some CT)
 f151:=Tryz.func253.trans (congrArg some CT)
 f152:=Tryz.func292.trans (congrArg some CT)
 f217:=Tryz.func198.trans (congrArg some CT)
 f224:=Tryz.func256.trans (congrArg some CT)
 f225:=Tryz.func255.trans (congrArg some CT)
 f266:=Tryz.func232.trans (congrArg some CT)
 t0:=Tryz.underlying0
 a0:=Tryz.isAgg0
 z0:=Tryz.sizeOf0
 v0:=Tryz.zeroValue0
 t3:=Tryz.underlying3
 a3:=Tryz.isAgg3
 z3:=Tryz.sizeOf3
 v3:=Tryz.zeroValue3
 t4:=Tryz.underlying4
 a4:=Tryz.isAgg4
 z4:=Tryz.sizeOf4
 v4:=Tryz.zeroValue4
 t5:=Tryz.underlying5
 a5:=Tryz.isAgg5
 z5:=Tryz.sizeOf5
 v5:=Tryz.zeroValue5
 t9:=Tryz.underlying9
 a9:=Tryz.isAgg9
 z9:=Tryz.sizeOf9
 v9:=Tryz.zeroValue9
 t21:=Tryz.underlying21
 a21:=Tryz.isAgg21
 z21:=Tryz.sizeOf21
 v21:=Tryz.zeroValue21
 t46:=Tryz.underlying165
 a46:=Tryz.isAgg165
 z46:=Tryz.sizeOf165
 v46:=Tryz.zeroValue165}
open Go.RowKit Go.Lib in
theorem Tryz.strings_ContainsRune_ascii(s:bA)(r:Int)(w:World)(h0:0<=r)(h1:r<128):
  Calls Tryz.prog 253 #[.string s,.int .i32 r] w fun e w'=>e=.returned (.bool (decide (0<=Lib.indexByte s.data.toList r.toNat.toUInt8)))/\w'=w:=Any.strings_ContainsRune_ascii Tryz.lays151 s r w h0 h1
def Tryz.lays110_ren:Go.Shelf.Ren:=⟨fun|110=>78|109=>131|n=>n,fun|31=>26|9=>9|4=>4|3=>3|0=>0|n=>n,fun|n=>n⟩
theorem Tryz.lays110:Go.Proofs.Lays.n110 Tryz.prog Tryz.lays110_ren:={
 mixed:=CT
 f109:=Tryz.func131.trans (congrArg some CT)
 f110:=Tryz.func78.trans (congrArg some CT)
 t0:=Tryz.underlying0
 a0:=Tryz.isAgg0
 z0:=Tryz.sizeOf0
 v0:=Tryz.zeroValue0
 t3:=Tryz.underlying3
 a3:=Tryz.isAgg3
 z3:=Tryz.sizeOf3
 v3:=Tryz.zeroValue3
 t4:=Tryz.underlying4
 a4:=Tryz.isAgg4
 z4:=Tryz.sizeOf4
 v4:=Tryz.zeroValue4
 t9:=Tryz.underlying9
 a9:=Tryz.isAgg9
 z9:=Tryz.sizeOf9
 v9:=Tryz.zeroValue9
 t31:=Tryz.underlying26
 a31:=Tryz.isAgg26
 z31:=Tryz.sizeOf26
 v31:=Tryz.zeroValue26}
open Go.Lib in
theorem Tryz.slices_Contains_string(b off n c:Nat)(zs:List bA)(x:bA)(w:World)(hz:n<=zs.length)(kS:n<=9223372036854775807)(hc:∀j,j<zs.length->w.cell? ⟨b,off+j,none⟩=some (.string (zs.getD j ByteArray.empty))):
  Calls Tryz.prog 78 #[.slice (some ⟨b,off,none⟩) n c,.string x] w fun e w'=>e=.returned (.bool (Lib.containsS (zs.take n) x))/\w'=w:=Any.slices_Contains_string Tryz.lays110 b off n c zs x w hz kS hc
open Go.Lib in
theorem Tryz.slices_Contains_string_empty(a:Option Addr)(c:Nat)(x:bA)(w:World):
  Calls Tryz.prog 78 #[.slice a 0 c,.string x] w fun e w'=>e=.returned (.bool false)/\w'=w:=Any.slices_Contains_string_empty Tryz.lays110 a c x w
def Tryz.lays111_ren:Go.Shelf.Ren:=⟨fun|111=>73|n=>n,fun|28=>35|3=>3|4=>4|0=>0|n=>n,fun|n=>n⟩
theorem Tryz.lays111:Go.Proofs.Lays.n111 Tryz.prog Tryz.lays111_ren:={
 mixed:=CT
 f111:=Tryz.func73.trans (congrArg some CT)
 t0:=Tryz.underlying0
 a0:=Tryz.isAgg0
 z0:=Tryz.sizeOf0
 v0:=Tryz.zeroValue0
 t3:=Tryz.underlying3
 a3:=Tryz.isAgg3
 z3:=Tryz.sizeOf3
 v3:=Tryz.zeroValue3
 t4:=Tryz.underlying4
 a4:=Tryz.isAgg4
 z4:=Tryz.sizeOf4
 v4:=Tryz.zeroValue4
 t28:=Tryz.underlying35
 a28:=Tryz.isAgg35
 z28:=Tryz.sizeOf35
 v28:=Tryz.zeroValue35}
open Go.RowKit Go.Lib in
theorem Tryz.slices_Equal_int(b1 o1 n c b2 o2 m d:Nat)(xs ys:List Int)(w:World)(hx:n<=xs.length)(hy:m<=ys.length)(kS:n<=9223372036854775807)(oQ:m<=9223372036854775807)(jH:∀j,j<xs.length->w.cell? ⟨b1,o1+j,none⟩=some (.int .i64 (xs.getD j 0)))(mG:∀j,j<ys.length->w.cell? ⟨b2,o2+j,none⟩=some (.int .i64 (ys.getD j 0))):
  Calls Tryz.prog 73 #[.slice (some ⟨b1,o1,none⟩) n c,.slice (some ⟨b2,o2,none⟩) m d] w fun e w'=>e=.returned (.bool (xs.take n==ys.take m))/\∃q,w'=w.drewN q:=Any.slices_Equal_int Tryz.lays111 b1 o1 n c b2 o2 m d xs ys w hx hy kS oQ jH mG
open Go.RowKit Go.Lib in
theorem Tryz.slices_Equal_int_empty(a1 a2:Option Addr)(c m d:Nat)(w:World)(oQ:m<=9223372036854775807):
  Calls Tryz.prog 73 #[.slice a1 0 c,.slice a2 m d] w fun e w'=>e=.returned (.bool (decide (m=0)))/\w'=w:=Any.slices_Equal_int_empty Tryz.lays111 a1 a2 c m d w oQ
def Tryz.lays193_ren:Go.Shelf.Ren:=⟨fun|193=>124|n=>n,fun|31=>26|9=>9|4=>4|3=>3|0=>0|n=>n,fun|n=>n⟩
theorem Tryz.lays193:Go.Proofs.Lays.n193 Tryz.prog Tryz.lays193_ren:={
 mixed:=CT
 f193:=Tryz.func124.trans (congrArg some CT)
 t0:=Tryz.underlying0
 a0:=Tryz.isAgg0
 z0:=Tryz.sizeOf0
 v0:=Tryz.zeroValue0
 t3:=Tryz.underlying3
 a3:=Tryz.isAgg3
 z3:=Tryz.sizeOf3
 v3:=Tryz.zeroValue3
 t4:=Tryz.underlying4
 a4:=Tryz.isAgg4
 z4:=Tryz.sizeOf4
 v4:=Tryz.zeroValue4
 t9:=Tryz.underlying9
 a9:=Tryz.isAgg9
 z9:=Tryz.sizeOf9
 v9:=Tryz.zeroValue9
 t31:=Tryz.underlying26
 a31:=Tryz.isAgg26
 z31:=Tryz.sizeOf26
 v31:=Tryz.zeroValue26}
open Go.RowKit Go.Lib in
theorem Tryz.slices_Equal_string(b1 o1 n c b2 o2 m d:Nat)(xs ys:List bA)(w:World)(hx:n<=xs.length)(hy:m<=ys.length)(kS:n<=9223372036854775807)(oQ:m<=9223372036854775807)(jH:∀j,j<xs.length->w.cell? ⟨b1,o1+j,none⟩=some (.string (xs.getD j ByteArray.empty)))(mG:∀j,j<ys.length->w.cell? ⟨b2,o2+j,none⟩=some (.string (ys.getD j ByteArray.empty))):
  Calls Tryz.prog 124 #[.slice (some ⟨b1,o1,none⟩) n c,.slice (some ⟨b2,o2,none⟩) m d] w fun e w'=>e=.returned (.bool (decide (xs.take n=ys.take m)))/\∃q,w'=w.drewN q:=Any.slices_Equal_string Tryz.lays193 b1 o1 n c b2 o2 m d xs ys w hx hy kS oQ jH mG
open Go.RowKit Go.Lib in
theorem Tryz.slices_Equal_string_empty(a1 a2:Option Addr)(c m d:Nat)(w:World)(oQ:m<=9223372036854775807):
  Calls Tryz.prog 124 #[.slice a1 0 c,.slice a2 m d] w fun e w'=>e=.returned (.bool (decide (m=0)))/\w'=w:=Any.slices_Equal_string_empty Tryz.lays193 a1 a2 c m d w oQ
open Go.RowKit Go.Lib in
theorem Tryz.slices_Equal_int_lens(a1 a2:Option Addr)(n c m d:Nat)(w:World)(mS:n≠m):
  Calls Tryz.prog 73 #[.slice a1 n c,.slice a2 m d] w fun e w'=>e=.returned (.bool false)/\w'=w:=Any.slices_Equal_int_lens Tryz.lays111 a1 a2 n c m d w mS
open Go.RowKit Go.Lib in
theorem Tryz.slices_Equal_string_lens(a1 a2:Option Addr)(n c m d:Nat)(w:World)(mS:n≠m):
  Calls Tryz.prog 124 #[.slice a1 n c,.slice a2 m d] w fun e w'=>e=.returned (.bool false)/\w'=w:=Any.slices_Equal_string_lens Tryz.lays193 a1 a2 n c m d w mS
def Tryz.laysSlE041_f184_ren:Go.Shelf.Ren:=⟨fun|41=>184|n=>n,fun|22=>29|23=>115|4=>4|n=>n,fun|n=>n⟩
theorem Tryz.laysSlE041_f184:Go.Proofs.SlLaysE0.n41 Tryz.prog Tryz.laysSlE041_f184_ren:={
 mixed:=CT
 f41:=⟨Tryz.f184.name,DF,Tryz.func184.trans (congrArg some CT)⟩
 t4:=Tryz.underlying4
 a4:=Tryz.isAgg4
 z4:=Tryz.sizeOf4
 v4:=Tryz.zeroValue4
 t22:=Tryz.underlying29
 a22:=Tryz.isAgg29
 z22:=Tryz.sizeOf29
 v22:=Tryz.zeroValue29}
open Go.RowKit Go.Lib in
theorem Tryz.slices_Clone_nil_f184(n c:Nat)(w:World):
  Calls Tryz.prog 184 #[.slice none n c] w fun e w'=>e=.returned (.slice none 0 0)/\w'=w:=AnyE.slices_Clone_nil Tryz.laysSlE041_f184 n c w
def Tryz.laysSlH6_f130_ren:Go.Shelf.Ren:=⟨fun|6=>130|n=>n,fun|22=>26|23=>9|25=>77|3=>3|0=>0|4=>4|n=>n,fun|n=>n⟩
theorem Tryz.laysSlH6_f130:Go.Proofs.SlLaysH.n6 Tryz.prog Tryz.laysSlH6_f130_ren:={
 mixed:=CT
 f6:=⟨Tryz.f130.name,DF,Tryz.func130.trans (congrArg some CT)⟩
 t0:=Tryz.underlying0
 a0:=Tryz.isAgg0
 z0:=Tryz.sizeOf0
 v0:=Tryz.zeroValue0
 t3:=Tryz.underlying3
 a3:=Tryz.isAgg3
 z3:=Tryz.sizeOf3
 v3:=Tryz.zeroValue3
 t4:=Tryz.underlying4
 a4:=Tryz.isAgg4
 z4:=Tryz.sizeOf4
 v4:=Tryz.zeroValue4
 t22:=Tryz.underlying26
 a22:=Tryz.isAgg26
 z22:=Tryz.sizeOf26
 v22:=Tryz.zeroValue26
 a23:=Tryz.isAgg9
 z23:=Tryz.sizeOf9
 t25:=Tryz.underlying77
 a25:=Tryz.isAgg77
 z25:=Tryz.sizeOf77
 v25:=Tryz.zeroValue77}
open Go.RowKit Go.Lib in
theorem Tryz.slices_IndexFunc{α:Type}[Inhabited α](enc:α->Value)(p:α->Bool)(g:Nat)(lb:Array Value)(eg:∀args w,(callFunc g args).run Tryz.prog w=.ok (.enter g args) w)(b off n c:Nat)(zs:List α)(w:World)(hp:PredAt Tryz.prog g lb enc p w)(hz:n<=zs.length)(kS:n<=9223372036854775807)(hc:∀j,j<zs.length->w.cell? ⟨b,off+j,none⟩=some (enc zs[j]!)):
  Calls Tryz.prog 130 #[.slice (some ⟨b,off,none⟩) n c,.func (.func g) #[] lb] w fun e w'=>e=.returned (.int .i64 (Lib.idxBy (fun _ y=>p y) (zs.take n) default))/\∃q,w'=w.drewN q:=AnyE.slices_IndexFunc Tryz.laysSlH6_f130 enc p g lb eg b off n c zs w hp hz kS hc
def Tryz.laysSlQ8_f70_ren:Go.Shelf.Ren:=⟨fun|8=>70|n=>n,fun|22=>29|24=>115|4=>4|3=>3|0=>0|n=>n,fun|n=>n⟩
theorem Tryz.laysSlQ8_f70:Go.Proofs.SlLaysQ.n8 Tryz.prog Tryz.laysSlQ8_f70_ren:={
 mixed:=CT
 f8:=⟨Tryz.f70.name,DF,Tryz.func70.trans (congrArg some CT)⟩
 t0:=Tryz.underlying0
 a0:=Tryz.isAgg0
 z0:=Tryz.sizeOf0
 v0:=Tryz.zeroValue0
 t3:=Tryz.underlying3
 a3:=Tryz.isAgg3
 z3:=Tryz.sizeOf3
 v3:=Tryz.zeroValue3
 t4:=Tryz.underlying4
 a4:=Tryz.isAgg4
 z4:=Tryz.sizeOf4
 v4:=Tryz.zeroValue4
 t22:=Tryz.underlying29
 a22:=Tryz.isAgg29
 z22:=Tryz.sizeOf29
 v22:=Tryz.zeroValue29}
open Go.RowKit Go.Lib in
theorem Tryz.slices_Equal{α:Type}[Inhabited α](k:Nat)(aE:∀w,(isAgg 115).run Tryz.prog w=.ok true w)(zE:∀w,(Go.sizeOf 115).run Tryz.prog w=.ok k w)(enc:α->List Value)(hk:∀x,(enc x).length=k)(eq:α->α->Bool)(kQ:NeqAt Tryz.prog 115 (fun x=>.agg (enc x).toArray) eq)(b1 o1 n c b2 o2 m d:Nat)(xs ys:List α)(w:World)(hx:n<=xs.length)(hy:m<=ys.length)(kS:n<=9223372036854775807)(oQ:m<=9223372036854775807)(jH:∀j,j<xs.length->∀i v,(enc xs[j]!)[i]? =some v->w.cell? ⟨b1,o1+j*k+i,none⟩=some v)(mG:∀j,j<ys.length->∀i v,(enc ys[j]!)[i]? =some v->w.cell? ⟨b2,o2+j*k+i,none⟩=some v):
  Calls Tryz.prog 70 #[.slice (some ⟨b1,o1,none⟩) n c,.slice (some ⟨b2,o2,none⟩) m d] w fun e w'=>e=.returned (.bool (Lib.allEq eq (xs.take n) (ys.take m)))/\∃q,w'=w.drewN q:=AnyQ.slices_Equal Tryz.laysSlQ8_f70 k aE zE enc hk eq kQ b1 o1 n c b2 o2 m d xs ys w hx hy kS oQ jH mG
def Tryz.laysSlH06_f58_ren:Go.Shelf.Ren:=⟨fun|6=>58|n=>n,fun|22=>53|23=>37|25=>39|3=>3|0=>0|4=>4|n=>n,fun|n=>n⟩
theorem Tryz.laysSlH06_f58:Go.Proofs.SlLaysH0.n6 Tryz.prog Tryz.laysSlH06_f58_ren:={
 mixed:=CT
 f6:=⟨Tryz.f58.name,DF,Tryz.func58.trans (congrArg some CT)⟩
 t0:=Tryz.underlying0
 a0:=Tryz.isAgg0
 z0:=Tryz.sizeOf0
 v0:=Tryz.zeroValue0
 t3:=Tryz.underlying3
 a3:=Tryz.isAgg3
 z3:=Tryz.sizeOf3
 v3:=Tryz.zeroValue3
 t4:=Tryz.underlying4
 a4:=Tryz.isAgg4
 z4:=Tryz.sizeOf4
 v4:=Tryz.zeroValue4
 t22:=Tryz.underlying53
 a22:=Tryz.isAgg53
 z22:=Tryz.sizeOf53
 v22:=Tryz.zeroValue53
 t25:=Tryz.underlying39
 a25:=Tryz.isAgg39
 z25:=Tryz.sizeOf39
 v25:=Tryz.zeroValue39}
open Go.RowKit Go.Lib in
theorem Tryz.slices_IndexFunc_f58{α:Type}[Inhabited α](k:Nat)(aE:∀w,(isAgg 37).run Tryz.prog w=.ok true w)(zE:∀w,(Go.sizeOf 37).run Tryz.prog w=.ok k w)(enc:α->List Value)(hk:∀x,(enc x).length=k)(p:α->Bool)(g:Nat)(lb:Array Value)(eg:∀args w,(callFunc g args).run Tryz.prog w=.ok (.enter g args) w)(b off n c:Nat)(zs:List α)(w:World)(hp:PredBelow Tryz.prog g lb (fun x=>.agg (enc x).toArray) p w)(hz:n<=zs.length)(kS:n<=9223372036854775807)(hb:b<w.heap.size)(hc:∀j,j<zs.length->∀i v,(enc zs[j]!)[i]? =some v->w.cell? ⟨b,off+j*k+i,none⟩=some v):
  Calls Tryz.prog 58 #[.slice (some ⟨b,off,none⟩) n c,.func (.func g) #[] lb] w fun e w'=>e=.returned (.int .i64 (Lib.idxBy (fun _ y=>p y) (zs.take n) default))/\Below w.heap.size w w':=AnyQ.slices_IndexFunc Tryz.laysSlH06_f58 k aE zE enc hk p g lb eg b off n c zs w hp hz kS hb hc
def Tryz.laysSlH06_f132_ren:Go.Shelf.Ren:=⟨fun|6=>132|n=>n,fun|22=>24|23=>71|25=>69|3=>3|0=>0|4=>4|n=>n,fun|n=>n⟩
theorem Tryz.laysSlH06_f132:Go.Proofs.SlLaysH0.n6 Tryz.prog Tryz.laysSlH06_f132_ren:={
 mixed:=CT
 f6:=⟨Tryz.f132.name,DF,Tryz.func132.trans (congrArg some CT)⟩
 t0:=Tryz.underlying0
 a0:=Tryz.isAgg0
 z0:=Tryz.sizeOf0
 v0:=Tryz.zeroValue0
 t3:=Tryz.underlying3
 a3:=Tryz.isAgg3
 z3:=Tryz.sizeOf3
 v3:=Tryz.zeroValue3
 t4:=Tryz.underlying4
 a4:=Tryz.isAgg4
 z4:=Tryz.sizeOf4
 v4:=Tryz.zeroValue4
 t22:=Tryz.underlying24
 a22:=Tryz.isAgg24
 z22:=Tryz.sizeOf24
 v22:=Tryz.zeroValue24
 t25:=Tryz.underlying69
 a25:=Tryz.isAgg69
 z25:=Tryz.sizeOf69
 v25:=Tryz.zeroValue69}
open Go.RowKit Go.Lib in
theorem Tryz.slices_IndexFunc_f132{α:Type}[Inhabited α](k:Nat)(aE:∀w,(isAgg 71).run Tryz.prog w=.ok true w)(zE:∀w,(Go.sizeOf 71).run Tryz.prog w=.ok k w)(enc:α->List Value)(hk:∀x,(enc x).length=k)(p:α->Bool)(g:Nat)(lb:Array Value)(eg:∀args w,(callFunc g args).run Tryz.prog w=.ok (.enter g args) w)(b off n c:Nat)(zs:List α)(w:World)(hp:PredBelow Tryz.prog g lb (fun x=>.agg (enc x).toArray) p w)(hz:n<=zs.length)(kS:n<=9223372036854775807)(hb:b<w.heap.size)(hc:∀j,j<zs.length->∀i v,(enc zs[j]!)[i]? =some v->w.cell? ⟨b,off+j*k+i,none⟩=some v):
  Calls Tryz.prog 132 #[.slice (some ⟨b,off,none⟩) n c,.func (.func g) #[] lb] w fun e w'=>e=.returned (.int .i64 (Lib.idxBy (fun _ y=>p y) (zs.take n) default))/\Below w.heap.size w w':=AnyQ.slices_IndexFunc Tryz.laysSlH06_f132 k aE zE enc hk p g lb eg b off n c zs w hp hz kS hb hc
def Tryz.laysSlH06_f173_ren:Go.Shelf.Ren:=⟨fun|6=>173|n=>n,fun|22=>29|23=>115|25=>169|3=>3|0=>0|4=>4|n=>n,fun|n=>n⟩
theorem Tryz.laysSlH06_f173:Go.Proofs.SlLaysH0.n6 Tryz.prog Tryz.laysSlH06_f173_ren:={
 mixed:=CT
 f6:=⟨Tryz.f173.name,DF,Tryz.func173.trans (congrArg some CT)⟩
 t0:=Tryz.underlying0
 a0:=Tryz.isAgg0
 z0:=Tryz.sizeOf0
 v0:=Tryz.zeroValue0
 t3:=Tryz.underlying3
 a3:=Tryz.isAgg3
 z3:=Tryz.sizeOf3
 v3:=Tryz.zeroValue3
 t4:=Tryz.underlying4
 a4:=Tryz.isAgg4
 z4:=Tryz.sizeOf4
 v4:=Tryz.zeroValue4
 t22:=Tryz.underlying29
 a22:=Tryz.isAgg29
 z22:=Tryz.sizeOf29
 v22:=Tryz.zeroValue29
 t25:=Tryz.underlying169
 a25:=Tryz.isAgg169
 z25:=Tryz.sizeOf169
 v25:=Tryz.zeroValue169}
open Go.RowKit Go.Lib in
theorem Tryz.slices_IndexFunc_f173{α:Type}[Inhabited α](k:Nat)(aE:∀w,(isAgg 115).run Tryz.prog w=.ok true w)(zE:∀w,(Go.sizeOf 115).run Tryz.prog w=.ok k w)(enc:α->List Value)(hk:∀x,(enc x).length=k)(p:α->Bool)(g:Nat)(lb:Array Value)(eg:∀args w,(callFunc g args).run Tryz.prog w=.ok (.enter g args) w)(b off n c:Nat)(zs:List α)(w:World)(hp:PredBelow Tryz.prog g lb (fun x=>.agg (enc x).toArray) p w)(hz:n<=zs.length)(kS:n<=9223372036854775807)(hb:b<w.heap.size)(hc:∀j,j<zs.length->∀i v,(enc zs[j]!)[i]? =some v->w.cell? ⟨b,off+j*k+i,none⟩=some v):
  Calls Tryz.prog 173 #[.slice (some ⟨b,off,none⟩) n c,.func (.func g) #[] lb] w fun e w'=>e=.returned (.int .i64 (Lib.idxBy (fun _ y=>p y) (zs.take n) default))/\Below w.heap.size w w':=AnyQ.slices_IndexFunc Tryz.laysSlH06_f173 k aE zE enc hk p g lb eg b off n c zs w hp hz kS hb hc
def Tryz.laysSlF06_f56_ren:Go.Shelf.Ren:=⟨fun|6=>56|15=>112|14=>111|28=>171|29=>172|20=>163|21=>164|22=>165|23=>166|24=>167|25=>168|26=>169|27=>170|46=>208|47=>209|48=>210|49=>211|50=>212|57=>242|n=>n,fun|22=>55|24=>23|25=>59|3=>3|39=>165|0=>0|53=>224|55=>226|4=>4|46=>218|45=>217|50=>61|5=>5|9=>9|66=>264|70=>268|76=>289|77=>290|n=>n,fun|n=>n⟩
theorem Tryz.laysSlF06_f56:Go.Proofs.SlLaysF0.n6 Tryz.prog Tryz.laysSlF06_f56_ren:={
 mixed:=CT
 f6:=⟨Tryz.f56.name,DF,Tryz.func56.trans (congrArg some CT)⟩
 f14:=⟨Tryz.f111.name,DF,Tryz.func111.trans (congrArg some CT)⟩
 f15:=Tryz.func112.trans (congrArg some CT)
 f20:=⟨Tryz.f163.name,DF,Tryz.func163.trans (congrArg some CT)⟩
 f21:=⟨Tryz.f164.name,DF,Tryz.func164.trans (congrArg some CT)⟩
 f22:=⟨Tryz.f165.name,DF,Tryz.func165.trans (congrArg some CT)⟩
 f23:=⟨Tryz.f166.name,DF,Tryz.func166.trans (congrArg some CT)⟩
 f24:=⟨Tryz.f167.name,DF,Tryz.func167.trans (congrArg some CT)⟩
 f25:=⟨Tryz.f168.name,DF,Tryz.func168.trans (congrArg some CT)⟩
 f26:=⟨Tryz.f169.name,DF,Tryz.func169.trans (congrArg some CT)⟩
 f27:=⟨Tryz.f170.name,DF,Tryz.func170.trans (congrArg some CT)⟩
 f28:=Tryz.func171.trans (congrArg some CT)
 f29:=Tryz.func172.trans (congrArg some CT)
 f46:=⟨Tryz.f208.name,DF,Tryz.func208.trans (congrArg some CT)⟩
 f47:=Tryz.func209.trans (congrArg some CT)
 f48:=Tryz.func210.trans (congrArg some CT)
 f49:=⟨Tryz.f211.name,DF,Tryz.func211.trans (congrArg some CT)⟩
 f50:=⟨Tryz.f212.name,DF,Tryz.func212.trans (congrArg some CT)⟩
 f57:=⟨Tryz.f242.name,DF,Tryz.func242.trans (congrArg some CT)⟩
 t0:=Tryz.underlying0
 a0:=Tryz.isAgg0
 z0:=Tryz.sizeOf0
 v0:=Tryz.zeroValue0
 t3:=Tryz.underlying3
 a3:=Tryz.isAgg3
 z3:=Tryz.sizeOf3
 v3:=Tryz.zeroValue3
 t4:=Tryz.underlying4
 a4:=Tryz.isAgg4
 z4:=Tryz.sizeOf4
 v4:=Tryz.zeroValue4
 t5:=Tryz.underlying5
 a5:=Tryz.isAgg5
 z5:=Tryz.sizeOf5
 v5:=Tryz.zeroValue5
 t9:=Tryz.underlying9
 a9:=Tryz.isAgg9
 z9:=Tryz.sizeOf9
 v9:=Tryz.zeroValue9
 t22:=Tryz.underlying55
 a22:=Tryz.isAgg55
 z22:=Tryz.sizeOf55
 v22:=Tryz.zeroValue55
 t25:=Tryz.underlying59
 a25:=Tryz.isAgg59
 z25:=Tryz.sizeOf59
 v25:=Tryz.zeroValue59
 t39:=Tryz.underlying165
 a39:=Tryz.isAgg165
 z39:=Tryz.sizeOf165
 v39:=Tryz.zeroValue165
 t45:=Tryz.underlying217
 a45:=Tryz.isAgg217
 z45:=Tryz.sizeOf217
 v45:=Tryz.zeroValue217
 t46:=Tryz.underlying218
 a46:=Tryz.isAgg218
 z46:=Tryz.sizeOf218
 v46:=Tryz.zeroValue218
 t50:=Tryz.underlying61
 a50:=Tryz.isAgg61
 z50:=Tryz.sizeOf61
 v50:=Tryz.zeroValue61
 t53:=Tryz.underlying224
 a53:=Tryz.isAgg224
 z53:=Tryz.sizeOf224
 v53:=Tryz.zeroValue224
 t55:=Tryz.underlying226
 a55:=Tryz.isAgg226
 z55:=Tryz.sizeOf226
 v55:=Tryz.zeroValue226
 t66:=Tryz.underlying264
 a66:=Tryz.isAgg264
 z66:=Tryz.sizeOf264
 v66:=Tryz.zeroValue264
 t70:=Tryz.underlying268
 a70:=Tryz.isAgg268
 z70:=Tryz.sizeOf268
 v70:=Tryz.zeroValue268
 t76:=Tryz.underlying289
 a76:=Tryz.isAgg289
 z76:=Tryz.sizeOf289
 v76:=Tryz.zeroValue289
 t77:=Tryz.underlying290
 a77:=Tryz.isAgg290
 z77:=Tryz.sizeOf290
 v77:=Tryz.zeroValue290}
def Tryz.laysSlF06_f186_ren:Go.Shelf.Ren:=⟨fun|6=>186|15=>112|14=>223|28=>171|29=>172|20=>258|21=>259|22=>260|23=>261|24=>262|25=>263|26=>264|27=>265|46=>294|47=>209|48=>210|49=>295|50=>296|57=>315|n=>n,fun|22=>29|24=>115|25=>252|3=>3|39=>165|0=>0|53=>224|55=>226|4=>4|46=>218|45=>217|50=>61|5=>5|9=>9|66=>264|70=>268|76=>289|77=>290|n=>n,fun|n=>n⟩
theorem Tryz.laysSlF06_f186:Go.Proofs.SlLaysF0.n6 Tryz.prog Tryz.laysSlF06_f186_ren:={
 mixed:=CT
 f6:=⟨Tryz.f186.name,DF,Tryz.func186.trans (congrArg some CT)⟩
 f14:=⟨Tryz.f223.name,DF,Tryz.func223.trans (congrArg some CT)⟩
 f15:=Tryz.func112.trans (congrArg some CT)
 f20:=⟨Tryz.f258.name,DF,Tryz.func258.trans (congrArg some CT)⟩
 f21:=⟨Tryz.f259.name,DF,Tryz.func259.trans (congrArg some CT)⟩
 f22:=⟨Tryz.f260.name,DF,Tryz.func260.trans (congrArg some CT)⟩
 f23:=⟨Tryz.f261.name,DF,Tryz.func261.trans (congrArg some CT)⟩
 f24:=⟨Tryz.f262.name,DF,Tryz.func262.trans (congrArg some CT)⟩
 f25:=⟨Tryz.f263.name,DF,Tryz.func263.trans (congrArg some CT)⟩
 f26:=⟨Tryz.f264.name,DF,Tryz.func264.trans (congrArg some CT)⟩
 f27:=⟨Tryz.f265.name,DF,Tryz.func265.trans (congrArg some CT)⟩
 f28:=Tryz.func171.trans (congrArg some CT)
 f29:=Tryz.func172.trans (congrArg some CT)
 f46:=⟨Tryz.f294.name,DF,Tryz.func294.trans (congrArg some CT)⟩
 f47:=Tryz.func209.trans (congrArg some CT)
 f48:=Tryz.func210.trans (congrArg some CT)
 f49:=⟨Tryz.f295.name,DF,Tryz.func295.trans (congrArg some CT)⟩
 f50:=⟨Tryz.f296.name,DF,Tryz.func296.trans (congrArg some CT)⟩
 f57:=⟨Tryz.f315.name,DF,Tryz.func315.trans (congrArg some CT)⟩
 t0:=Tryz.underlying0
 a0:=Tryz.isAgg0
 z0:=Tryz.sizeOf0
 v0:=Tryz.zeroValue0
 t3:=Tryz.underlying3
 a3:=Tryz.isAgg3
 z3:=Tryz.sizeOf3
 v3:=Tryz.zeroValue3
 t4:=Tryz.underlying4
 a4:=Tryz.isAgg4
 z4:=Tryz.sizeOf4
 v4:=Tryz.zeroValue4
 t5:=Tryz.underlying5
 a5:=Tryz.isAgg5
 z5:=Tryz.sizeOf5
 v5:=Tryz.zeroValue5
 t9:=Tryz.underlying9
 a9:=Tryz.isAgg9
 z9:=Tryz.sizeOf9
 v9:=Tryz.zeroValue9
 t22:=Tryz.underlying29
 a22:=Tryz.isAgg29
 z22:=Tryz.sizeOf29
 v22:=Tryz.zeroValue29
 t25:=Tryz.underlying252
 a25:=Tryz.isAgg252
 z25:=Tryz.sizeOf252
 v25:=Tryz.zeroValue252
 t39:=Tryz.underlying165
 a39:=Tryz.isAgg165
 z39:=Tryz.sizeOf165
 v39:=Tryz.zeroValue165
 t45:=Tryz.underlying217
 a45:=Tryz.isAgg217
 z45:=Tryz.sizeOf217
 v45:=Tryz.zeroValue217
 t46:=Tryz.underlying218
 a46:=Tryz.isAgg218
 z46:=Tryz.sizeOf218
 v46:=Tryz.zeroValue218
 t50:=Tryz.underlying61
 a50:=Tryz.isAgg61
 z50:=Tryz.sizeOf61
 v50:=Tryz.zeroValue61
 t53:=Tryz.underlying224
 a53:=Tryz.isAgg224
 z53:=Tryz.sizeOf224
 v53:=Tryz.zeroValue224
 t55:=Tryz.underlying226
 a55:=Tryz.isAgg226
 z55:=Tryz.sizeOf226
 v55:=Tryz.zeroValue226
 t66:=Tryz.underlying264
 a66:=Tryz.isAgg264
 z66:=Tryz.sizeOf264
 v66:=Tryz.zeroValue264
 t70:=Tryz.underlying268
 a70:=Tryz.isAgg268
 z70:=Tryz.sizeOf268
 v70:=Tryz.zeroValue268
 t76:=Tryz.underlying289
 a76:=Tryz.isAgg289
 z76:=Tryz.sizeOf289
 v76:=Tryz.zeroValue289
 t77:=Tryz.underlying290
 a77:=Tryz.isAgg290
 z77:=Tryz.sizeOf290
 v77:=Tryz.zeroValue290}
open Go.RowKit Go.Lib Go.Sort in
theorem Tryz.slices_SortFunc_f186{α:Type}[Inhabited α](k:Nat)(aE:∀w,(isAgg 115).run Tryz.prog w=.ok true w)(zE:∀w,(Go.sizeOf 115).run Tryz.prog w=.ok k w)(enc:α->List Value)(hk:∀x,(enc x).length=k)(h1:∀x,∀v∈enc x,v.oneCell'=true)(cf:α->α->Int)(hO:SWO (ltOf cf))(g:Nat)(cb:Array Value)(blk off cap:Nat)(d:Array α)(w:World)(eg:∀args w,(callFunc g args).run Tryz.prog w=.ok (.enter g args) w)(zO:CmpLays Tryz.prog g cb enc k cf blk off d.size w)(hH:HoldsK enc k w blk off d)(tB:blk<w.heap.size)(mO:d.size<4611686018427387904):
  Calls Tryz.prog 186 #[.slice (some ⟨blk,off,none⟩) d.size cap,.func (.func g) #[] cb] w fun e w'=>
   e=.returned (.tuple #[])/\∃d' n os,PermIn 0 d.size d d'/\SortedIn (ltOf cf) 0 d.size d'/\w'=sortWorldK enc k w blk off n d' os:=AnyQ.slices_SortFunc Tryz.laysSlF06_f186 k aE zE enc hk h1 cf hO g cb blk off cap d w eg zO hH tB mO
open Go.RowKit Go.Lib Go.Sort in
theorem Tryz.slices_SortFunc_none_f56{α:Type}[Inhabited α](p:Option Addr)(cap:Nat)(fv:Value)(w:World):
  Calls Tryz.prog 56 #[.slice p 0 cap,fv] w fun e w'=>e=.returned (.tuple #[])/\w'=w:=AnyF.slices_SortFunc_none Tryz.laysSlF06_f56 p cap fv w
open Go.RowKit Go.Lib Go.Sort in
theorem Tryz.slices_SortFunc_none_f186{α:Type}[Inhabited α](p:Option Addr)(cap:Nat)(fv:Value)(w:World):
  Calls Tryz.prog 186 #[.slice p 0 cap,fv] w fun e w'=>e=.returned (.tuple #[])/\w'=w:=AnyF.slices_SortFunc_none Tryz.laysSlF06_f186 p cap fv w
open Go.RowKit Go.Lib Go.Sort in
theorem Tryz.slices_SortFunc_total_f56{α:Type}[Inhabited α](k:Nat)(aE:∀w,(isAgg 23).run Tryz.prog w=.ok true w)(zE:∀w,(Go.sizeOf 23).run Tryz.prog w=.ok k w)(enc:α->List Value)(hk:∀x,(enc x).length=k)(h1:∀x,∀v∈enc x,v.oneCell'=true)(cf:α->α->Int)(hO:SWO (ltOf cf))(g:Nat)(cb:Array Value)(blk off cap:Nat)(d:Array α)(w:World)(eg:∀args w,(callFunc g args).run Tryz.prog w=.ok (.enter g args) w)(zO:CmpLays Tryz.prog g cb enc k cf blk off d.size w)(hH:HoldsK enc k w blk off d)(tB:blk<w.heap.size)(mO:d.size<4611686018427387904)(hT:∀x y,(ltOf cf) x y=false->(ltOf cf) y x=false->x=y):
  Calls Tryz.prog 56 #[.slice (some ⟨blk,off,none⟩) d.size cap,.func (.func g) #[] cb] w fun e w'=>
   e=.returned (.tuple #[])/\∃n os,w'=sortWorldK enc k w blk off n (d.toList.mergeSort fun x y=> !(ltOf cf) y x).toArray os:=AnyQ.slices_SortFunc_total Tryz.laysSlF06_f56 k aE zE enc hk h1 cf hO g cb blk off cap d w eg zO hH tB mO hT
end Go.Proofs
