/- Texts of this seat, joined. -/
import Derived.Test.YtacgopankhpnbaaGreatDoorTQA
import Derived.Shelf.Strings.OnBuilder
import Derived.Shelf.Strings.BuilderK
import Derived.Shelf.Utf8.RuneCount
import Derived.Shelf.Strconv.Itoa3
import Derived.Shelf.Strings.Shaped
import Derived.Shelf.Sort.Plain
import Derived.Shelf.Strings.Prefix
import Derived.Shelf.Strings.SplitShaped
import Derived.Shelf.Strings.Explode
import Derived.Shelf.Unicode.DecodeAny
import Derived.Shelf.Strings.FieldsAny
import Derived.Shelf.Unicode.ExclAny
import Derived.Shelf.Slices.Turned
import Derived.Shelf.Slices.Clone
import Derived.Shelf.Slices.Cells
import Derived.Shelf.Slices.In.SortNone
import Derived.Shelf.Slices.Empties
import Derived.Shelf.Slices.Empties2
import Derived.Shelf.SlicesE.Clone
import Derived.Shelf.SlicesE.IndexFunc
import Derived.Test.YtacgopankhpnbaaGreatDoorProg
set_option linter.unusedVariables false
set_option linter.unusedSimpArgs false
namespace Go.Proofs
open Go.Shelf
theorem aAP{p:Prop}(h:p:=by kernel_rfl):p:=h
def Tryz.lays169_ren:Go.Shelf.Ren:=⟨fun|169=>101|n=>n,fun|70=>144|9=>9|0=>0|72=>147|37=>145|127=>193|3=>3|5=>5|n=>n,fun|n=>n⟩
theorem Tryz.lays169:Go.Proofs.Lays.n169 Tryz.prog Tryz.lays169_ren:={
 mixed:=aAP
 f169:=Tryz.func101.trans (congrArg some aAP)
 t0:=Tryz.underlying0
 a0:=Tryz.isAgg0
 z0:=Tryz.sizeOf0
 v0:=Tryz.zeroValue0
 t3:=Tryz.underlying3
 a3:=Tryz.isAgg3
 z3:=Tryz.sizeOf3
 v3:=Tryz.zeroValue3
 t9:=Tryz.underlying9
 a9:=Tryz.isAgg9
 z9:=Tryz.sizeOf9
 v9:=Tryz.zeroValue9
 t37:=Tryz.underlying145
 a37:=Tryz.isAgg145
 z37:=Tryz.sizeOf145
 v37:=Tryz.zeroValue145
 t70:=Tryz.underlying144
 a70:=Tryz.isAgg144
 z70:=Tryz.sizeOf144
 v70:=Tryz.zeroValue144
 t72:=Tryz.underlying147
 a72:=Tryz.isAgg147
 z72:=Tryz.sizeOf147
 v72:=Tryz.zeroValue147
 t127:=Tryz.underlying193
 a127:=Tryz.isAgg193
 z127:=Tryz.sizeOf193
 v127:=Tryz.zeroValue193}
theorem Tryz.Builder_Extra_169:Builder.Extra Tryz.prog Tryz.lays169_ren:={
 sizeBuilder:=aAP
 liesBuilder:=aAP
 t5:=Tryz.underlying5
 a5:=Tryz.isAgg5
 z5:=Tryz.sizeOf5
 v5:=Tryz.zeroValue5
 infoByte:=aAP
 cellsByte:=aAP
 sizeByte:=aAP
 neB5:=by decide}
open Go.RowKit in
theorem Tryz.Builder_String_any(B b:Nat)(l:List UInt8)(w:World)(h:Lib.IsBuilder 147 5 B b (Lib.byteCells l) w)(PM:B<=w.heap.size):
  Calls Tryz.prog 101 #[.pointer (some ⟨b,0,none⟩)] w fun e w'=>e=.returned (.string ⟨l.toArray⟩)/\Below B w w':=Any.Builder_String_any Tryz.lays169 Tryz.Builder_Extra_169 B b l w h PM
def Tryz.lays156_ren:Go.Shelf.Ren:=⟨fun|156=>79|165=>99|166=>100|169=>101|240=>120|241=>121|276=>161|277=>162|n=>n,fun|31=>22|9=>9|3=>3|4=>4|0=>0|20=>20|72=>147|76=>150|70=>144|37=>145|75=>149|127=>193|164=>233|5=>5|80=>152|n=>n,fun|n=>n⟩
theorem Tryz.lays156:Go.Proofs.Lays.n156 Tryz.prog Tryz.lays156_ren:={
 mixed:=aAP
 f156:=Tryz.func79.trans (congrArg some aAP)
 f165:=Tryz.func99.trans (congrArg some aAP)
 f166:=Tryz.func100.trans (congrArg some aAP)
 f169:=Tryz.func101.trans (congrArg some aAP)
 f240:=Tryz.func120.trans (congrArg some aAP)
 f241:=Tryz.func121.trans (congrArg some aAP)
 f276:=Tryz.func161.trans (congrArg some aAP)
 f277:=Tryz.func162.trans (congrArg some aAP)
 t0:=Tryz.underlying0
 a0:=Tryz.isAgg0
 z0:=Tryz.sizeOf0
 v0:=Tryz.zeroValue0
 t3:=Tryz.underlying3
 a3:=Tryz.isAgg3
 z3:=Tryz.sizeOf3
 v3:=Tryz.zeroValue3
 t4:=Tryz.underlying4
 a4:=Tryz.isAgg4
 z4:=Tryz.sizeOf4
 v4:=Tryz.zeroValue4
 t9:=Tryz.underlying9
 a9:=Tryz.isAgg9
 z9:=Tryz.sizeOf9
 v9:=Tryz.zeroValue9
 t20:=Tryz.underlying20
 a20:=Tryz.isAgg20
 z20:=Tryz.sizeOf20
 v20:=Tryz.zeroValue20
 t31:=Tryz.underlying22
 a31:=Tryz.isAgg22
 z31:=Tryz.sizeOf22
 v31:=Tryz.zeroValue22
 t37:=Tryz.underlying145
 a37:=Tryz.isAgg145
 z37:=Tryz.sizeOf145
 v37:=Tryz.zeroValue145
 t70:=Tryz.underlying144
 a70:=Tryz.isAgg144
 z70:=Tryz.sizeOf144
 v70:=Tryz.zeroValue144
 t72:=Tryz.underlying147
 a72:=Tryz.isAgg147
 z72:=Tryz.sizeOf147
 v72:=Tryz.zeroValue147
 t75:=Tryz.underlying149
 a75:=Tryz.isAgg149
 z75:=Tryz.sizeOf149
 v75:=Tryz.zeroValue149
 t76:=Tryz.underlying150
 a76:=Tryz.isAgg150
 z76:=Tryz.sizeOf150
 v76:=Tryz.zeroValue150
 t127:=Tryz.underlying193
 a127:=Tryz.isAgg193
 z127:=Tryz.sizeOf193
 v127:=Tryz.zeroValue193
 t164:=Tryz.underlying233
 a164:=Tryz.isAgg233
 z164:=Tryz.sizeOf233
 v164:=Tryz.zeroValue233}
theorem Tryz.Builder_Extra_156:Builder.Extra Tryz.prog Tryz.lays156_ren:={
 sizeBuilder:=aAP
 liesBuilder:=aAP
 t5:=Tryz.underlying5
 a5:=Tryz.isAgg5
 z5:=Tryz.sizeOf5
 v5:=Tryz.zeroValue5
 infoByte:=aAP
 cellsByte:=aAP
 sizeByte:=aAP
 neB5:=by decide}
open Go.RowKit in
theorem Tryz.strings_Join_none(a:Option Addr)(c:Nat)(sep:bA)(w:World):
  Calls Tryz.prog 79 #[.slice a 0 c,.string sep] w fun e w'=>e=.returned (.string ⟨#[]⟩)/\w'=w:=Any.strings_Join_none Tryz.lays156 Tryz.Builder_Extra_156 a c sep w
open Go.RowKit in
theorem Tryz.strings_Join(bk o c:Nat)(xs:List bA)(sep:bA)(w:World)(hcells:∀(j:Nat)x,xs[j]? =some x->w.cell? ⟨bk,o+j,none⟩=some (.string x))(ER:bk<w.heap.size)(hN:xs.length<=140737488355328)(yZ:xs.length<=c)(hlen:(Lib.join (xs.map (·.data.toList)) sep.data.toList).length<=140737488355328):
  Calls Tryz.prog 79 #[.slice (some ⟨bk,o,none⟩) xs.length c,.string sep] w fun e w'=>e=.returned (.string ⟨(Lib.join (xs.map (·.data.toList)) sep.data.toList).toArray⟩)/\Below w.heap.size w w':=Any.strings_Join Tryz.lays156 Tryz.Builder_Extra_156 bk o c xs sep w hcells ER hN yZ hlen
def Tryz.laysM171_ren:Go.Shelf.Ren:=⟨fun|171=>106|243=>126|246=>178|283=>212|284=>213|285=>214|286=>215|129=>177|317=>232|318=>233|319=>234|320=>235|337=>240|338=>241|n=>n,fun|3=>3|9=>9|2=>2|4=>4|171=>273|0=>0|53=>248|37=>145|5=>5|173=>275|212=>292|51=>246|20=>20|213=>293|46=>197|232=>317|233=>318|n=>n,fun|17=>4|18=>8|19=>9|n=>n⟩
theorem Tryz.laysM171:Go.Proofs.LaysM.n171 Tryz.prog Tryz.laysM171_ren:={
 mixed:=aAP
 f129:=Tryz.func177.trans (congrArg some aAP)
 f171:=Tryz.func106.trans (congrArg some aAP)
 f243:=Tryz.func126.trans (congrArg some aAP)
 f246:=Tryz.func178.trans (congrArg some aAP)
 f283:=Tryz.func212.trans (congrArg some aAP)
 f284:=Tryz.func213.trans (congrArg some aAP)
 f285:=Tryz.func214.trans (congrArg some aAP)
 f286:=Tryz.func215.trans (congrArg some aAP)
 f317:=Tryz.func232.trans (congrArg some aAP)
 f318:=Tryz.func233.trans (congrArg some aAP)
 f319:=Tryz.func234.trans (congrArg some aAP)
 f320:=Tryz.func235.trans (congrArg some aAP)
 f337:=Tryz.func240.trans (congrArg some aAP)
 f338:=Tryz.func241.trans (congrArg some aAP)
 t0:=Tryz.underlying0
 a0:=Tryz.isAgg0
 z0:=Tryz.sizeOf0
 v0:=Tryz.zeroValue0
 t2:=Tryz.underlying2
 a2:=Tryz.isAgg2
 z2:=Tryz.sizeOf2
 v2:=Tryz.zeroValue2
 t3:=Tryz.underlying3
 a3:=Tryz.isAgg3
 z3:=Tryz.sizeOf3
 v3:=Tryz.zeroValue3
 t4:=Tryz.underlying4
 a4:=Tryz.isAgg4
 z4:=Tryz.sizeOf4
 v4:=Tryz.zeroValue4
 t5:=Tryz.underlying5
 a5:=Tryz.isAgg5
 z5:=Tryz.sizeOf5
 v5:=Tryz.zeroValue5
 t9:=Tryz.underlying9
 a9:=Tryz.isAgg9
 z9:=Tryz.sizeOf9
 v9:=Tryz.zeroValue9
 t20:=Tryz.underlying20
 a20:=Tryz.isAgg20
 z20:=Tryz.sizeOf20
 v20:=Tryz.zeroValue20
 t37:=Tryz.underlying145
 a37:=Tryz.isAgg145
 z37:=Tryz.sizeOf145
 v37:=Tryz.zeroValue145
 t46:=Tryz.underlying197
 a46:=Tryz.isAgg197
 z46:=Tryz.sizeOf197
 v46:=Tryz.zeroValue197
 t51:=Tryz.underlying246
 a51:=Tryz.isAgg246
 z51:=Tryz.sizeOf246
 v51:=Tryz.zeroValue246
 t53:=Tryz.underlying248
 a53:=Tryz.isAgg248
 z53:=Tryz.sizeOf248
 v53:=Tryz.zeroValue248
 t171:=Tryz.underlying273
 a171:=Tryz.isAgg273
 z171:=Tryz.sizeOf273
 v171:=Tryz.zeroValue273
 t173:=Tryz.underlying275
 a173:=Tryz.isAgg275
 z173:=Tryz.sizeOf275
 v173:=Tryz.zeroValue275
 t212:=Tryz.underlying292
 a212:=Tryz.isAgg292
 z212:=Tryz.sizeOf292
 v212:=Tryz.zeroValue292
 t213:=Tryz.underlying293
 a213:=Tryz.isAgg293
 z213:=Tryz.sizeOf293
 t232:=Tryz.underlying317
 a232:=Tryz.isAgg317
 z232:=Tryz.sizeOf317
 v232:=Tryz.zeroValue317
 t233:=Tryz.underlying318
 a233:=Tryz.isAgg318
 z233:=Tryz.sizeOf318
 v233:=Tryz.zeroValue318
 g17:=aAP
 g18:=aAP
 g19:=aAP
 i0:=aAP
 i2:=aAP
 i3:=aAP
 i4:=aAP
 i5:=aAP
 i9:=aAP
 i20:=aAP
 i37:=aAP
 i46:=aAP
 i51:=aAP
 i53:=aAP
 i171:=aAP
 i173:=aAP
 i212:=aAP
 i232:=aAP
 i233:=aAP
 m17:=aAP
 m18:=aAP
 m19:=aAP}
open Go.RowKit Go.Sort Go.Lib in
theorem Tryz.strconv_Itoa(n:Int)(h0: -9223372036854775808<=n)(h1:n<=9223372036854775807)(w:World)(UZ:Lib.TabIs Tryz.prog w "internal/strconv.uint64pow10" .u64 Lib.pow10Tab):
  Calls Tryz.prog 106 #[.int .i64 n] w fun e w'=>e=.returned (.string ⟨(Lib.itoa n).toArray⟩)/\∃k os,w'=grow (w.drewN k) os:=Any.strconv_Itoa Tryz.laysM171 n h0 h1 w UZ
def Tryz.lays144_ren:Go.Shelf.Ren:=⟨fun|144=>196|143=>165|219=>205|217=>227|225=>228|224=>229|267=>230|266=>238|314=>239|n=>n,fun|9=>9|4=>4|3=>3|5=>5|46=>197|146=>303|51=>246|n=>n,fun|1=>2|n=>n⟩
theorem Tryz.lays144:Go.Proofs.Lays.n144 Tryz.prog Tryz.lays144_ren:={
 mixed:=aAP
 f143:=Tryz.func165.trans (congrArg some aAP)
 f144:=Tryz.func196.trans (congrArg some aAP)
 f217:=Tryz.func227.trans (congrArg some aAP)
 f219:=Tryz.func205.trans (congrArg some aAP)
 f224:=Tryz.func229.trans (congrArg some aAP)
 f225:=Tryz.func228.trans (congrArg some aAP)
 f266:=Tryz.func238.trans (congrArg some aAP)
 f267:=Tryz.func230.trans (congrArg some aAP)
 f314:=Tryz.func239.trans (congrArg some aAP)
 t3:=Tryz.underlying3
 a3:=Tryz.isAgg3
 z3:=Tryz.sizeOf3
 v3:=Tryz.zeroValue3
 t4:=Tryz.underlying4
 a4:=Tryz.isAgg4
 z4:=Tryz.sizeOf4
 v4:=Tryz.zeroValue4
 t5:=Tryz.underlying5
 a5:=Tryz.isAgg5
 z5:=Tryz.sizeOf5
 v5:=Tryz.zeroValue5
 t9:=Tryz.underlying9
 a9:=Tryz.isAgg9
 z9:=Tryz.sizeOf9
 v9:=Tryz.zeroValue9
 t46:=Tryz.underlying197
 a46:=Tryz.isAgg197
 z46:=Tryz.sizeOf197
 v46:=Tryz.zeroValue197
 t51:=Tryz.underlying246
 a51:=Tryz.isAgg246
 z51:=Tryz.sizeOf246
 v51:=Tryz.zeroValue246
 t146:=Tryz.underlying303
 a146:=Tryz.isAgg303
 z146:=Tryz.sizeOf303
 v146:=Tryz.zeroValue303
 g1:=aAP}
open Go.RowKit Go.Lib in
theorem Tryz.strings_Contains(s sub:bA)(m:Int)(w:World)(hs:s.size<4294967281)(hm:w.cell? ⟨2,0,none⟩=some (.int .i64 m)):
  Calls Tryz.prog 196 #[.string s,.string sub] w fun e w'=>e=.returned (.bool (Lib.contains s.data.toList sub.data.toList))/\w'=w:=Any.strings_Contains Tryz.lays144 s sub m w hs hm
def Tryz.lays190_ren:Go.Shelf.Ren:=⟨fun|190=>105|125=>125|258=>124|128=>176|129=>177|302=>167|303=>168|304=>169|305=>170|306=>171|307=>172|308=>173|309=>174|310=>175|333=>206|329=>207|330=>208|334=>209|335=>210|336=>211|344=>231|n=>n,fun|31=>22|9=>9|3=>3|46=>197|0=>0|51=>246|53=>248|4=>4|183=>240|182=>239|131=>45|5=>5|218=>267|222=>271|228=>289|229=>256|n=>n,fun|n=>n⟩
theorem Tryz.lays190:Go.Proofs.Lays.n190 Tryz.prog Tryz.lays190_ren:={
 mixed:=aAP
 f125:=Tryz.func125.trans (congrArg some aAP)
 f128:=Tryz.func176.trans (congrArg some aAP)
 f129:=Tryz.func177.trans (congrArg some aAP)
 f190:=Tryz.func105.trans (congrArg some aAP)
 f258:=Tryz.func124.trans (congrArg some aAP)
 f302:=Tryz.func167.trans (congrArg some aAP)
 f303:=Tryz.func168.trans (congrArg some aAP)
 f304:=Tryz.func169.trans (congrArg some aAP)
 f305:=Tryz.func170.trans (congrArg some aAP)
 f306:=Tryz.func171.trans (congrArg some aAP)
 f307:=Tryz.func172.trans (congrArg some aAP)
 f308:=Tryz.func173.trans (congrArg some aAP)
 f309:=Tryz.func174.trans (congrArg some aAP)
 f310:=Tryz.func175.trans (congrArg some aAP)
 f329:=Tryz.func207.trans (congrArg some aAP)
 f330:=Tryz.func208.trans (congrArg some aAP)
 f333:=Tryz.func206.trans (congrArg some aAP)
 f334:=Tryz.func209.trans (congrArg some aAP)
 f335:=Tryz.func210.trans (congrArg some aAP)
 f336:=Tryz.func211.trans (congrArg some aAP)
 f344:=Tryz.func231.trans (congrArg some aAP)
 t0:=Tryz.underlying0
 a0:=Tryz.isAgg0
 z0:=Tryz.sizeOf0
 v0:=Tryz.zeroValue0
 t3:=Tryz.underlying3
 a3:=Tryz.isAgg3
 z3:=Tryz.sizeOf3
 v3:=Tryz.zeroValue3
 t4:=Tryz.underlying4
 a4:=Tryz.isAgg4
 z4:=Tryz.sizeOf4
 v4:=Tryz.zeroValue4
 t5:=Tryz.underlying5
 a5:=Tryz.isAgg5
 z5:=Tryz.sizeOf5
 v5:=Tryz.zeroValue5
 t9:=Tryz.underlying9
 a9:=Tryz.isAgg9
 z9:=Tryz.sizeOf9
 v9:=Tryz.zeroValue9
 t31:=Tryz.underlying22
 a31:=Tryz.isAgg22
 z31:=Tryz.sizeOf22
 v31:=Tryz.zeroValue22
 t46:=Tryz.underlying197
 a46:=Tryz.isAgg197
 z46:=Tryz.sizeOf197
 v46:=Tryz.zeroValue197
 t51:=Tryz.underlying246
 a51:=Tryz.isAgg246
 z51:=Tryz.sizeOf246
 v51:=Tryz.zeroValue246
 t53:=Tryz.underlying248
 a53:=Tryz.isAgg248
 z53:=Tryz.sizeOf248
 v53:=Tryz.zeroValue248
 t131:=Tryz.underlying45
 a131:=Tryz.isAgg45
 z131:=Tryz.sizeOf45
 v131:=Tryz.zeroValue45
 t182:=Tryz.underlying239
 a182:=Tryz.isAgg239
 z182:=Tryz.sizeOf239
 v182:=Tryz.zeroValue239
 t183:=Tryz.underlying240
 a183:=Tryz.isAgg240
 z183:=Tryz.sizeOf240
 v183:=Tryz.zeroValue240
 t218:=Tryz.underlying267
 a218:=Tryz.isAgg267
 z218:=Tryz.sizeOf267
 v218:=Tryz.zeroValue267
 t222:=Tryz.underlying271
 a222:=Tryz.isAgg271
 z222:=Tryz.sizeOf271
 v222:=Tryz.zeroValue271
 t228:=Tryz.underlying289
 a228:=Tryz.isAgg289
 z228:=Tryz.sizeOf289
 v228:=Tryz.zeroValue289
 t229:=Tryz.underlying256
 a229:=Tryz.isAgg256
 z229:=Tryz.sizeOf256
 v229:=Tryz.zeroValue256}
open Go.Sort Go.RowKit in
theorem Tryz.slices_Sort_string(blk off cap:Nat)(ss:List (List UInt8))(w:World)(hH:Holds encStr w blk off ss.toArray)(NP:blk<w.heap.size)(tI:ss.length<4611686018427387904):
  Calls Tryz.prog 105 #[.slice (some ⟨blk,off,none⟩) ss.length cap] w fun e w'=>
   e=.returned (.tuple #[])/\∃n os,w'=grow (putRow encStr (Sort.ahead w n) blk off (ss.mergeSort fun x y=>decide (x<=y)).toArray) os:=Any.slices_Sort_string Tryz.lays190 blk off cap ss w hH NP tI
def Tryz.lays99_ren:Go.Shelf.Ren:=⟨fun|99=>184|206=>217|n=>n,fun|9=>9|4=>4|3=>3|n=>n,fun|n=>n⟩
theorem Tryz.lays99:Go.Proofs.Lays.n99 Tryz.prog Tryz.lays99_ren:={
 mixed:=aAP
 f99:=Tryz.func184.trans (congrArg some aAP)
 f206:=Tryz.func217.trans (congrArg some aAP)
 t3:=Tryz.underlying3
 a3:=Tryz.isAgg3
 z3:=Tryz.sizeOf3
 v3:=Tryz.zeroValue3
 t4:=Tryz.underlying4
 a4:=Tryz.isAgg4
 z4:=Tryz.sizeOf4
 v4:=Tryz.zeroValue4
 t9:=Tryz.underlying9
 a9:=Tryz.isAgg9
 z9:=Tryz.sizeOf9
 v9:=Tryz.zeroValue9}
open Go.RowKit Go.Lib in
theorem Tryz.strings_HasPrefix(s p:bA)(w:World):
  Calls Tryz.prog 184 #[.string s,.string p] w fun e w'=>e=.returned (.bool (Lib.hasPrefix s.data.toList p.data.toList))/\w'=w:=Any.strings_HasPrefix Tryz.lays99 s p w
def Tryz.lays102_ren:Go.Shelf.Ren:=⟨fun|102=>104|209=>123|207=>166|n=>n,fun|9=>9|4=>4|3=>3|n=>n,fun|n=>n⟩
theorem Tryz.lays102:Go.Proofs.Lays.n102 Tryz.prog Tryz.lays102_ren:={
 mixed:=aAP
 f102:=Tryz.func104.trans (congrArg some aAP)
 f207:=Tryz.func166.trans (congrArg some aAP)
 f209:=Tryz.func123.trans (congrArg some aAP)
 t3:=Tryz.underlying3
 a3:=Tryz.isAgg3
 z3:=Tryz.sizeOf3
 v3:=Tryz.zeroValue3
 t4:=Tryz.underlying4
 a4:=Tryz.isAgg4
 z4:=Tryz.sizeOf4
 v4:=Tryz.zeroValue4
 t9:=Tryz.underlying9
 a9:=Tryz.isAgg9
 z9:=Tryz.sizeOf9
 v9:=Tryz.zeroValue9}
open Go.RowKit Go.Lib in
theorem Tryz.strings_TrimSuffix(s p:bA)(w:World)(hs:s.size<=9223372036854775807):
  Calls Tryz.prog 104 #[.string s,.string p] w fun e w'=>e=.returned (.string ⟨(Lib.trimSuffix s.data.toList p.data.toList).toArray⟩)/\w'=w:=Any.strings_TrimSuffix Tryz.lays102 s p w hs
def Tryz.lays146_ren:Go.Shelf.Ren:=⟨fun|146=>103|221=>122|268=>163|138=>164|143=>165|195=>202|197=>203|218=>204|219=>205|260=>226|217=>227|225=>228|224=>229|267=>230|266=>238|314=>239|n=>n,fun|9=>9|31=>22|3=>3|4=>4|0=>0|105=>264|21=>21|5=>5|46=>197|119=>283|139=>302|138=>301|146=>303|51=>246|n=>n,fun|1=>2|3=>6|4=>7|n=>n⟩
theorem Tryz.lays146:Go.Proofs.Lays.n146 Tryz.prog Tryz.lays146_ren:={
 mixed:=aAP
 f138:=Tryz.func164.trans (congrArg some aAP)
 f143:=Tryz.func165.trans (congrArg some aAP)
 f146:=Tryz.func103.trans (congrArg some aAP)
 f195:=Tryz.func202.trans (congrArg some aAP)
 f197:=Tryz.func203.trans (congrArg some aAP)
 f217:=Tryz.func227.trans (congrArg some aAP)
 f218:=Tryz.func204.trans (congrArg some aAP)
 f219:=Tryz.func205.trans (congrArg some aAP)
 f221:=Tryz.func122.trans (congrArg some aAP)
 f224:=Tryz.func229.trans (congrArg some aAP)
 f225:=Tryz.func228.trans (congrArg some aAP)
 f260:=Tryz.func226.trans (congrArg some aAP)
 f266:=Tryz.func238.trans (congrArg some aAP)
 f267:=Tryz.func230.trans (congrArg some aAP)
 f268:=Tryz.func163.trans (congrArg some aAP)
 f314:=Tryz.func239.trans (congrArg some aAP)
 t0:=Tryz.underlying0
 a0:=Tryz.isAgg0
 z0:=Tryz.sizeOf0
 v0:=Tryz.zeroValue0
 t3:=Tryz.underlying3
 a3:=Tryz.isAgg3
 z3:=Tryz.sizeOf3
 v3:=Tryz.zeroValue3
 t4:=Tryz.underlying4
 a4:=Tryz.isAgg4
 z4:=Tryz.sizeOf4
 v4:=Tryz.zeroValue4
 t5:=Tryz.underlying5
 a5:=Tryz.isAgg5
 z5:=Tryz.sizeOf5
 v5:=Tryz.zeroValue5
 t9:=Tryz.underlying9
 a9:=Tryz.isAgg9
 z9:=Tryz.sizeOf9
 v9:=Tryz.zeroValue9
 t21:=Tryz.underlying21
 a21:=Tryz.isAgg21
 z21:=Tryz.sizeOf21
 v21:=Tryz.zeroValue21
 t31:=Tryz.underlying22
 a31:=Tryz.isAgg22
 z31:=Tryz.sizeOf22
 v31:=Tryz.zeroValue22
 t46:=Tryz.underlying197
 a46:=Tryz.isAgg197
 z46:=Tryz.sizeOf197
 v46:=Tryz.zeroValue197
 t51:=Tryz.underlying246
 a51:=Tryz.isAgg246
 z51:=Tryz.sizeOf246
 v51:=Tryz.zeroValue246
 t105:=Tryz.underlying264
 a105:=Tryz.isAgg264
 z105:=Tryz.sizeOf264
 v105:=Tryz.zeroValue264
 t119:=Tryz.underlying283
 a119:=Tryz.isAgg283
 z119:=Tryz.sizeOf283
 t138:=Tryz.underlying301
 a138:=Tryz.isAgg301
 z138:=Tryz.sizeOf301
 v138:=Tryz.zeroValue301
 t139:=Tryz.underlying302
 a139:=Tryz.isAgg302
 z139:=Tryz.sizeOf302
 v139:=Tryz.zeroValue302
 t146:=Tryz.underlying303
 a146:=Tryz.isAgg303
 z146:=Tryz.sizeOf303
 v146:=Tryz.zeroValue303
 g1:=aAP
 g3:=aAP
 g4:=aAP}
open Go.RowKit Go.Lib in
theorem Tryz.strings_Split(s sep:bA)(m:Int)(w:World)(hs:s.size<4294967281)(hm:w.cell? ⟨2,0,none⟩=some (.int .i64 m))(h1:1<=sep.size):
  Calls Tryz.prog 103 #[.string s,.string sep] w fun e w'=>
   e=.returned (.slice (some ⟨w.heap.size,0,none⟩) (Lib.countB s sep+1) (Lib.countB s sep+1))/\w'=w.alloc (.cells ((Lib.splitB sep 0 (Lib.countB s sep) s).map Value.string).toArray 9):=Any.strings_Split Tryz.lays146 aAP s sep m w hs hm h1
def Tryz.laysM157_ren:Go.Shelf.Ren:=⟨fun|157=>190|229=>220|199=>221|261=>237|311=>245|312=>246|n=>n,fun|9=>9|31=>22|3=>3|5=>5|4=>4|119=>283|0=>0|40=>285|152=>295|21=>21|154=>297|51=>246|141=>299|196=>309|193=>306|198=>312|49=>310|194=>307|201=>315|226=>319|46=>197|227=>320|n=>n,fun|0=>3|6=>5|n=>n⟩
theorem Tryz.laysM157:Go.Proofs.LaysM.n157 Tryz.prog Tryz.laysM157_ren:={
 mixed:=aAP
 f157:=Tryz.func190.trans (congrArg some aAP)
 f199:=Tryz.func221.trans (congrArg some aAP)
 f229:=Tryz.func220.trans (congrArg some aAP)
 f261:=Tryz.func237.trans (congrArg some aAP)
 f311:=Tryz.func245.trans (congrArg some aAP)
 f312:=Tryz.func246.trans (congrArg some aAP)
 t0:=Tryz.underlying0
 a0:=Tryz.isAgg0
 z0:=Tryz.sizeOf0
 v0:=Tryz.zeroValue0
 t3:=Tryz.underlying3
 a3:=Tryz.isAgg3
 z3:=Tryz.sizeOf3
 v3:=Tryz.zeroValue3
 t4:=Tryz.underlying4
 a4:=Tryz.isAgg4
 z4:=Tryz.sizeOf4
 v4:=Tryz.zeroValue4
 t5:=Tryz.underlying5
 a5:=Tryz.isAgg5
 z5:=Tryz.sizeOf5
 v5:=Tryz.zeroValue5
 t9:=Tryz.underlying9
 a9:=Tryz.isAgg9
 z9:=Tryz.sizeOf9
 v9:=Tryz.zeroValue9
 t21:=Tryz.underlying21
 a21:=Tryz.isAgg21
 z21:=Tryz.sizeOf21
 v21:=Tryz.zeroValue21
 t31:=Tryz.underlying22
 a31:=Tryz.isAgg22
 z31:=Tryz.sizeOf22
 v31:=Tryz.zeroValue22
 t40:=Tryz.underlying285
 a40:=Tryz.isAgg285
 z40:=Tryz.sizeOf285
 v40:=Tryz.zeroValue285
 t46:=Tryz.underlying197
 a46:=Tryz.isAgg197
 z46:=Tryz.sizeOf197
 v46:=Tryz.zeroValue197
 t49:=Tryz.underlying310
 a49:=Tryz.isAgg310
 z49:=Tryz.sizeOf310
 v49:=Tryz.zeroValue310
 t51:=Tryz.underlying246
 a51:=Tryz.isAgg246
 z51:=Tryz.sizeOf246
 v51:=Tryz.zeroValue246
 t119:=Tryz.underlying283
 a119:=Tryz.isAgg283
 z119:=Tryz.sizeOf283
 t141:=Tryz.underlying299
 a141:=Tryz.isAgg299
 z141:=Tryz.sizeOf299
 v141:=Tryz.zeroValue299
 t152:=Tryz.underlying295
 a152:=Tryz.isAgg295
 z152:=Tryz.sizeOf295
 v152:=Tryz.zeroValue295
 t154:=Tryz.underlying297
 a154:=Tryz.isAgg297
 z154:=Tryz.sizeOf297
 v154:=Tryz.zeroValue297
 t193:=Tryz.underlying306
 a193:=Tryz.isAgg306
 z193:=Tryz.sizeOf306
 v193:=Tryz.zeroValue306
 t194:=Tryz.underlying307
 a194:=Tryz.isAgg307
 z194:=Tryz.sizeOf307
 v194:=Tryz.zeroValue307
 t196:=Tryz.underlying309
 a196:=Tryz.isAgg309
 z196:=Tryz.sizeOf309
 v196:=Tryz.zeroValue309
 t198:=Tryz.underlying312
 a198:=Tryz.isAgg312
 z198:=Tryz.sizeOf312
 v198:=Tryz.zeroValue312
 t201:=Tryz.underlying315
 a201:=Tryz.isAgg315
 z201:=Tryz.sizeOf315
 v201:=Tryz.zeroValue315
 t226:=Tryz.underlying319
 a226:=Tryz.isAgg319
 z226:=Tryz.sizeOf319
 v226:=Tryz.zeroValue319
 t227:=Tryz.underlying320
 a227:=Tryz.isAgg320
 z227:=Tryz.sizeOf320
 v227:=Tryz.zeroValue320
 g0:=aAP
 g6:=aAP
 i0:=aAP
 i3:=aAP
 i4:=aAP
 i5:=aAP
 i9:=aAP
 i21:=aAP
 i31:=aAP
 i40:=aAP
 i46:=aAP
 i49:=aAP
 i51:=aAP
 i141:=aAP
 i152:=aAP
 i154:=aAP
 i193:=aAP
 i194:=aAP
 i196:=aAP
 i198:=aAP
 i201:=aAP
 i226:=aAP
 i227:=aAP
 m0:=aAP
 m6:=aAP}
open Go.RowKit Go.Lib in
theorem Tryz.strings_Fields_laid(s:bA)(w:World)(hs:s.size<4294967281)(hascii:∀(j:Nat)b,s.data.toList[j]? =some b->b.toNat<128)(UZ:Lib.TabIs Tryz.prog w "strings.asciiSpace" .u8 Lib.asciiSpaceTab):
  Calls Tryz.prog 190 #[.string s] w fun e w'=>
   e=.returned (.slice (some ⟨w.heap.size,0,none⟩) (Lib.fields s.data.toList).length (Lib.fields s.data.toList).length)/\w'=w.alloc (.cells ((Lib.fields s.data.toList).map fun l=>Value.string ⟨l.toArray⟩).toArray 9):=Any.strings_Fields_laid Tryz.laysM157 s w hs hascii UZ
def Tryz.lays109_ren:Go.Shelf.Ren:=⟨fun|109=>222|n=>n,fun|31=>22|9=>9|3=>3|0=>0|4=>4|n=>n,fun|n=>n⟩
theorem Tryz.lays109:Go.Proofs.Lays.n109 Tryz.prog Tryz.lays109_ren:={
 mixed:=aAP
 f109:=Tryz.func222.trans (congrArg some aAP)
 t0:=Tryz.underlying0
 a0:=Tryz.isAgg0
 z0:=Tryz.sizeOf0
 v0:=Tryz.zeroValue0
 t3:=Tryz.underlying3
 a3:=Tryz.isAgg3
 z3:=Tryz.sizeOf3
 v3:=Tryz.zeroValue3
 t4:=Tryz.underlying4
 a4:=Tryz.isAgg4
 z4:=Tryz.sizeOf4
 v4:=Tryz.zeroValue4
 t9:=Tryz.underlying9
 a9:=Tryz.isAgg9
 z9:=Tryz.sizeOf9
 v9:=Tryz.zeroValue9
 t31:=Tryz.underlying22
 a31:=Tryz.isAgg22
 z31:=Tryz.sizeOf22
 v31:=Tryz.zeroValue22}
open Go.Lib in
theorem Tryz.slices_Index_string(b off n c:Nat)(zs:List bA)(x:bA)(w:World)(hz:n<=zs.length)(tC:n<=9223372036854775807)(hc:∀j,j<zs.length->w.cell? ⟨b,off+j,none⟩=some (.string (zs.getD j ByteArray.empty))):
  Calls Tryz.prog 222 #[.slice (some ⟨b,off,none⟩) n c,.string x] w fun e w'=>e=.returned (.int .i64 (Lib.idxOfS (zs.take n) x))/\w'=w:=Any.slices_Index_string Tryz.lays109 b off n c zs x w hz tC hc
def Tryz.lays112_ren:Go.Shelf.Ren:=⟨fun|112=>74|n=>n,fun|28=>26|3=>3|4=>4|0=>0|n=>n,fun|n=>n⟩
theorem Tryz.lays112:Go.Proofs.Lays.n112 Tryz.prog Tryz.lays112_ren:={
 mixed:=aAP
 f112:=Tryz.func74.trans (congrArg some aAP)
 t0:=Tryz.underlying0
 a0:=Tryz.isAgg0
 z0:=Tryz.sizeOf0
 v0:=Tryz.zeroValue0
 t3:=Tryz.underlying3
 a3:=Tryz.isAgg3
 z3:=Tryz.sizeOf3
 v3:=Tryz.zeroValue3
 t4:=Tryz.underlying4
 a4:=Tryz.isAgg4
 z4:=Tryz.sizeOf4
 v4:=Tryz.zeroValue4
 t28:=Tryz.underlying26
 a28:=Tryz.isAgg26
 z28:=Tryz.sizeOf26
 v28:=Tryz.zeroValue26}
def Tryz.lays193_ren:Go.Shelf.Ren:=⟨fun|193=>76|n=>n,fun|31=>22|9=>9|4=>4|3=>3|0=>0|n=>n,fun|n=>n⟩
theorem Tryz.lays193:Go.Proofs.Lays.n193 Tryz.prog Tryz.lays193_ren:={
 mixed:=aAP
 f193:=Tryz.func76.trans (congrArg some aAP)
 t0:=Tryz.underlying0
 a0:=Tryz.isAgg0
 z0:=Tryz.sizeOf0
 v0:=Tryz.zeroValue0
 t3:=Tryz.underlying3
 a3:=Tryz.isAgg3
 z3:=Tryz.sizeOf3
 v3:=Tryz.zeroValue3
 t4:=Tryz.underlying4
 a4:=Tryz.isAgg4
 z4:=Tryz.sizeOf4
 v4:=Tryz.zeroValue4
 t9:=Tryz.underlying9
 a9:=Tryz.isAgg9
 z9:=Tryz.sizeOf9
 v9:=Tryz.zeroValue9
 t31:=Tryz.underlying22
 a31:=Tryz.isAgg22
 z31:=Tryz.sizeOf22
 v31:=Tryz.zeroValue22}
open Go.RowKit Go.Lib in
theorem Tryz.slices_Equal_string(b1 o1 n c b2 o2 m d:Nat)(xs ys:List bA)(w:World)(hx:n<=xs.length)(hy:m<=ys.length)(tC:n<=9223372036854775807)(NS:m<=9223372036854775807)(NM:∀j,j<xs.length->w.cell? ⟨b1,o1+j,none⟩=some (.string (xs.getD j ByteArray.empty)))(tU:∀j,j<ys.length->w.cell? ⟨b2,o2+j,none⟩=some (.string (ys.getD j ByteArray.empty))):
  Calls Tryz.prog 76 #[.slice (some ⟨b1,o1,none⟩) n c,.slice (some ⟨b2,o2,none⟩) m d] w fun e w'=>e=.returned (.bool (decide (xs.take n=ys.take m)))/\∃q,w'=w.drewN q:=Any.slices_Equal_string Tryz.lays193 b1 o1 n c b2 o2 m d xs ys w hx hy tC NS NM tU
open Go.RowKit Go.Lib in
theorem Tryz.slices_Equal_string_empty(a1 a2:Option Addr)(c m d:Nat)(w:World)(NS:m<=9223372036854775807):
  Calls Tryz.prog 76 #[.slice a1 0 c,.slice a2 m d] w fun e w'=>e=.returned (.bool (decide (m=0)))/\w'=w:=Any.slices_Equal_string_empty Tryz.lays193 a1 a2 c m d w NS
def Tryz.laysNm216_ren:Go.Shelf.Ren:=⟨fun|16=>156|n=>n,fun|24=>22|9=>9|4=>4|n=>n,fun|n=>n⟩
theorem Tryz.laysNm216:Go.Proofs.Lays2.n16 Tryz.prog Tryz.laysNm216_ren:={
 mixed:=aAP
 f16:=Tryz.func156.trans (congrArg some aAP)
 t4:=Tryz.underlying4
 a4:=Tryz.isAgg4
 z4:=Tryz.sizeOf4
 v4:=Tryz.zeroValue4
 t9:=Tryz.underlying9
 a9:=Tryz.isAgg9
 z9:=Tryz.sizeOf9
 v9:=Tryz.zeroValue9
 t24:=Tryz.underlying22
 a24:=Tryz.isAgg22
 z24:=Tryz.sizeOf22
 v24:=Tryz.zeroValue22
 i9:=aAP}
open Go.RowKit Go.Lib in
theorem Tryz.slices_Clone_string(b off n c:Nat)(zs:List bA)(w:World)(hz:n<=zs.length)(tC:n*16<=140737488355328)(hc:∀j,j<zs.length->w.cell? ⟨b,off+j,none⟩=some (.string (zs.getD j ByteArray.empty))):
  Calls Tryz.prog 156 #[.slice (some ⟨b,off,none⟩) n c] w fun e w'=>∃v',e=.returned v'/\w'.ownsRow w.heap.size 9 1 v' n ((zs.take n).map (Value.string))/\v'≠ .slice none 0 0/\Below w.heap.size w w':=Any.slices_Clone_string Tryz.laysNm216 b off n c zs w hz tC hc
open Go.RowKit Go.Lib in
theorem Tryz.slices_Clone_string_nil(n c:Nat)(w:World):
  Calls Tryz.prog 156 #[.slice none n c] w fun e w'=>e=.returned (.slice none 0 0)/\w'=w:=Any.slices_Clone_string_nil Tryz.laysNm216 n c w
open Go.RowKit Go.Lib in
theorem Tryz.slices_Clone_string_zero(a:Addr)(c:Nat)(w:World):
  Calls Tryz.prog 156 #[.slice (some a) 0 c] w fun e w'=>∃v',e=.returned v'/\w'.ownsRow w.heap.size 9 1 v' 0 []/\v'≠ .slice none 0 0/\Below w.heap.size w w':=Any.slices_Clone_string_zero Tryz.laysNm216 a c w
def Tryz.laysNm224_ren:Go.Shelf.Ren:=⟨fun|24=>118|n=>n,fun|24=>22|9=>9|3=>3|4=>4|0=>0|n=>n,fun|n=>n⟩
theorem Tryz.laysNm224:Go.Proofs.Lays2.n24 Tryz.prog Tryz.laysNm224_ren:={
 mixed:=aAP
 f24:=Tryz.func118.trans (congrArg some aAP)
 t0:=Tryz.underlying0
 a0:=Tryz.isAgg0
 z0:=Tryz.sizeOf0
 v0:=Tryz.zeroValue0
 t3:=Tryz.underlying3
 a3:=Tryz.isAgg3
 z3:=Tryz.sizeOf3
 v3:=Tryz.zeroValue3
 t4:=Tryz.underlying4
 a4:=Tryz.isAgg4
 z4:=Tryz.sizeOf4
 v4:=Tryz.zeroValue4
 t9:=Tryz.underlying9
 a9:=Tryz.isAgg9
 z9:=Tryz.sizeOf9
 v9:=Tryz.zeroValue9
 t24:=Tryz.underlying22
 a24:=Tryz.isAgg22
 z24:=Tryz.sizeOf22
 v24:=Tryz.zeroValue22
 i9:=aAP}
open Go.RowKit Go.Lib Go.Sort in
theorem Tryz.slices_Reverse_int_cells(b off n c:Nat)(zs:List Int)(w:World)(hz:n<=zs.length)(tC:n<=9223372036854775807)(hc:∀j,j<zs.length->w.cell? ⟨b,off+j,none⟩=some (.int .i64 (zs.getD j 0)))(hf:∀j,j<n->w.frozen? ⟨b,off+j,none⟩=false):
  Calls Tryz.prog 74 #[.slice (some ⟨b,off,none⟩) n c] w fun e w'=>e=.returned (.tuple #[])/\∃q,w'=(w.drewN q).setCells b off ((zs.take n).reverse.map (Value.int .i64)):=Any.slices_Reverse_int_cells Tryz.lays112 b off n c zs w hz tC hc hf
open Go.RowKit Go.Lib Go.Sort in
theorem Tryz.slices_Delete_string_cells(b off n c i j:Nat)(Sx:Nat->bA)(w:World)(yZ:n<=c)(hm:c<=9223372036854775807)(CQ:i<=j)(hj:j<=n)(hc:∀i,i<n->w.cell? ⟨b,off+i,none⟩=some (.string (Sx i)))(hf:∀j,j<n->w.frozen? ⟨b,off+j,none⟩=false):
  Calls Tryz.prog 118 #[.slice (some ⟨b,off,none⟩) n c,.int .i64 i,.int .i64 j] w fun e w'=>e=.returned (.slice (some ⟨b,off,none⟩) (n-(j-i)) c)/\∃q,w'=(w.drewN q).setCells b off (((Lib.strsOf Sx n).take i++(Lib.strsOf Sx n).drop j++List.replicate (j-i) []).map encStr):=Any.slices_Delete_string_cells Tryz.laysNm224 b off n c i j Sx w yZ hm CQ hj hc hf
open Go.RowKit Go.Sort in
theorem Tryz.slices_Sort_string_none(p:Option Addr)(cap:Nat)(w:World):
  Calls Tryz.prog 105 #[.slice p 0 cap] w fun e w'=>e=.returned (.tuple #[])/\w'=w:=Any.slices_Sort_string_none Tryz.lays190 p cap w
open Go.RowKit Go.Lib in
theorem Tryz.slices_Equal_string_lens(a1 a2:Option Addr)(n c m d:Nat)(w:World)(xY:n≠m):
  Calls Tryz.prog 76 #[.slice a1 n c,.slice a2 m d] w fun e w'=>e=.returned (.bool false)/\w'=w:=Any.slices_Equal_string_lens Tryz.lays193 a1 a2 n c m d w xY
end Go.Proofs
