/- Texts of this seat, joined. -/
import Derived.Test.YtiionicikdnnpaaGreatDoorZb
import Derived.Shelf.Strings.OnBuilder
import Derived.Shelf.Strings.BuilderK
import Derived.Shelf.Utf8.RuneCount
import Derived.Shelf.Strconv.Itoa3
import Derived.Shelf.Strings.Shaped
import Derived.Shelf.Sort.Plain
import Derived.Shelf.Strings.Prefix
import Derived.Shelf.Strings.SplitShaped
import Derived.Shelf.Strings.Explode
import Derived.Shelf.Unicode.DecodeAny
import Derived.Shelf.Strings.FieldsAny
import Derived.Shelf.Unicode.ExclAny
import Derived.Shelf.Slices.Turned
import Derived.Shelf.Slices.Clone
import Derived.Shelf.Slices.Cells
import Derived.Shelf.Slices.In.SortNone
import Derived.Shelf.Slices.Empties
import Derived.Shelf.Slices.Empties2
import Derived.Shelf.SlicesE.Clone
import Derived.Shelf.SlicesE.IndexFunc
import Derived.Test.YtiionicikdnnpaaGreatDoorProg
namespace Go.Proofs
open Go.Shelf
theorem V0{p:Prop}(h:p:=by kernel_rfl):p:=h
def Tryz.laysM171_ren:Go.Shelf.Ren:=⟨fun|171=>196|243=>229|246=>251|283=>274|284=>275|285=>276|286=>277|129=>267|317=>288|318=>289|319=>290|320=>291|337=>294|338=>295|n=>n,fun|3=>3|9=>9|2=>2|4=>4|171=>288|0=>0|53=>280|37=>98|5=>5|173=>290|212=>303|51=>242|20=>20|213=>304|46=>236|232=>311|233=>312|n=>n,fun|17=>5|18=>8|19=>9|n=>n⟩
theorem Tryz.laysM171:Go.Proofs.LaysM.n171 Tryz.prog Tryz.laysM171_ren:={
 mixed:=V0
 f129:=Tryz.func267.trans (congrArg some V0)
 f171:=Tryz.func196.trans (congrArg some V0)
 f243:=Tryz.func229.trans (congrArg some V0)
 f246:=Tryz.func251.trans (congrArg some V0)
 f283:=Tryz.func274.trans (congrArg some V0)
 f284:=Tryz.func275.trans (congrArg some V0)
 f285:=Tryz.func276.trans (congrArg some V0)
 f286:=Tryz.func277.trans (congrArg some V0)
 f317:=Tryz.func288.trans (congrArg some V0)
 f318:=Tryz.func289.trans (congrArg some V0)
 f319:=Tryz.func290.trans (congrArg some V0)
 f320:=Tryz.func291.trans (congrArg some V0)
 f337:=Tryz.func294.trans (congrArg some V0)
 f338:=Tryz.func295.trans (congrArg some V0)
 t0:=Tryz.underlying0
 a0:=Tryz.isAgg0
 z0:=Tryz.sizeOf0
 v0:=Tryz.zeroValue0
 t2:=Tryz.underlying2
 a2:=Tryz.isAgg2
 z2:=Tryz.sizeOf2
 v2:=Tryz.zeroValue2
 t3:=Tryz.underlying3
 a3:=Tryz.isAgg3
 z3:=Tryz.sizeOf3
 v3:=Tryz.zeroValue3
 t4:=Tryz.underlying4
 a4:=Tryz.isAgg4
 z4:=Tryz.sizeOf4
 v4:=Tryz.zeroValue4
 t5:=Tryz.underlying5
 a5:=Tryz.isAgg5
 z5:=Tryz.sizeOf5
 v5:=Tryz.zeroValue5
 t9:=Tryz.underlying9
 a9:=Tryz.isAgg9
 z9:=Tryz.sizeOf9
 v9:=Tryz.zeroValue9
 t20:=Tryz.underlying20
 a20:=Tryz.isAgg20
 z20:=Tryz.sizeOf20
 v20:=Tryz.zeroValue20
 t37:=Tryz.underlying98
 a37:=Tryz.isAgg98
 z37:=Tryz.sizeOf98
 v37:=Tryz.zeroValue98
 t46:=Tryz.underlying236
 a46:=Tryz.isAgg236
 z46:=Tryz.sizeOf236
 v46:=Tryz.zeroValue236
 t51:=Tryz.underlying242
 a51:=Tryz.isAgg242
 z51:=Tryz.sizeOf242
 v51:=Tryz.zeroValue242
 t53:=Tryz.underlying280
 a53:=Tryz.isAgg280
 z53:=Tryz.sizeOf280
 v53:=Tryz.zeroValue280
 t171:=Tryz.underlying288
 a171:=Tryz.isAgg288
 z171:=Tryz.sizeOf288
 v171:=Tryz.zeroValue288
 t173:=Tryz.underlying290
 a173:=Tryz.isAgg290
 z173:=Tryz.sizeOf290
 v173:=Tryz.zeroValue290
 t212:=Tryz.underlying303
 a212:=Tryz.isAgg303
 z212:=Tryz.sizeOf303
 v212:=Tryz.zeroValue303
 t213:=Tryz.underlying304
 a213:=Tryz.isAgg304
 z213:=Tryz.sizeOf304
 t232:=Tryz.underlying311
 a232:=Tryz.isAgg311
 z232:=Tryz.sizeOf311
 v232:=Tryz.zeroValue311
 t233:=Tryz.underlying312
 a233:=Tryz.isAgg312
 z233:=Tryz.sizeOf312
 v233:=Tryz.zeroValue312
 g17:=V0
 g18:=V0
 g19:=V0
 i0:=V0
 i2:=V0
 i3:=V0
 i4:=V0
 i5:=V0
 i9:=V0
 i20:=V0
 i37:=V0
 i46:=V0
 i51:=V0
 i53:=V0
 i171:=V0
 i173:=V0
 i212:=V0
 i232:=V0
 i233:=V0
 m17:=V0
 m18:=V0
 m19:=V0}
open Go.RowKit Go.Sort Go.Lib in
theorem Tryz.strconv_Itoa(n:Int)(h0: -9223372036854775808<=n)(h1:n<=9223372036854775807)(w:World)(OZ:Lib.TabIs Tryz.prog w "internal/strconv.uint64pow10" .u64 Lib.pow10Tab):
  Calls Tryz.prog 196 #[.int .i64 n] w fun e w'=>e=.returned (.string ⟨(Lib.itoa n).toArray⟩)/\∃k os,w'=grow (w.drewN k) os:=Any.strconv_Itoa Tryz.laysM171 n h0 h1 w OZ
def Tryz.lays144_ren:Go.Shelf.Ren:=⟨fun|144=>60|143=>144|219=>194|217=>224|225=>225|224=>226|267=>227|266=>249|314=>250|n=>n,fun|9=>9|4=>4|3=>3|5=>5|46=>236|146=>256|51=>242|n=>n,fun|1=>2|n=>n⟩
theorem Tryz.lays144:Go.Proofs.Lays.n144 Tryz.prog Tryz.lays144_ren:={
 mixed:=V0
 f143:=Tryz.func144.trans (congrArg some V0)
 f144:=Tryz.func60.trans (congrArg some V0)
 f217:=Tryz.func224.trans (congrArg some V0)
 f219:=Tryz.func194.trans (congrArg some V0)
 f224:=Tryz.func226.trans (congrArg some V0)
 f225:=Tryz.func225.trans (congrArg some V0)
 f266:=Tryz.func249.trans (congrArg some V0)
 f267:=Tryz.func227.trans (congrArg some V0)
 f314:=Tryz.func250.trans (congrArg some V0)
 t3:=Tryz.underlying3
 a3:=Tryz.isAgg3
 z3:=Tryz.sizeOf3
 v3:=Tryz.zeroValue3
 t4:=Tryz.underlying4
 a4:=Tryz.isAgg4
 z4:=Tryz.sizeOf4
 v4:=Tryz.zeroValue4
 t5:=Tryz.underlying5
 a5:=Tryz.isAgg5
 z5:=Tryz.sizeOf5
 v5:=Tryz.zeroValue5
 t9:=Tryz.underlying9
 a9:=Tryz.isAgg9
 z9:=Tryz.sizeOf9
 v9:=Tryz.zeroValue9
 t46:=Tryz.underlying236
 a46:=Tryz.isAgg236
 z46:=Tryz.sizeOf236
 v46:=Tryz.zeroValue236
 t51:=Tryz.underlying242
 a51:=Tryz.isAgg242
 z51:=Tryz.sizeOf242
 v51:=Tryz.zeroValue242
 t146:=Tryz.underlying256
 a146:=Tryz.isAgg256
 z146:=Tryz.sizeOf256
 v146:=Tryz.zeroValue256
 g1:=V0}
open Go.RowKit Go.Lib in
theorem Tryz.strings_Contains(s sub:bA)(m:Int)(w:World)(hs:s.size<4294967281)(hm:w.cell? ⟨2,0,none⟩=some (.int .i64 m)):
  Calls Tryz.prog 60 #[.string s,.string sub] w fun e w'=>e=.returned (.bool (Lib.contains s.data.toList sub.data.toList))/\w'=w:=Any.strings_Contains Tryz.lays144 s sub m w hs hm
def Tryz.lays99_ren:Go.Shelf.Ren:=⟨fun|99=>168|206=>206|n=>n,fun|9=>9|4=>4|3=>3|n=>n,fun|n=>n⟩
theorem Tryz.lays99:Go.Proofs.Lays.n99 Tryz.prog Tryz.lays99_ren:={
 mixed:=V0
 f99:=Tryz.func168.trans (congrArg some V0)
 f206:=Tryz.func206.trans (congrArg some V0)
 t3:=Tryz.underlying3
 a3:=Tryz.isAgg3
 z3:=Tryz.sizeOf3
 v3:=Tryz.zeroValue3
 t4:=Tryz.underlying4
 a4:=Tryz.isAgg4
 z4:=Tryz.sizeOf4
 v4:=Tryz.zeroValue4
 t9:=Tryz.underlying9
 a9:=Tryz.isAgg9
 z9:=Tryz.sizeOf9
 v9:=Tryz.zeroValue9}
open Go.RowKit Go.Lib in
theorem Tryz.strings_HasPrefix(s p:bA)(w:World):
  Calls Tryz.prog 168 #[.string s,.string p] w fun e w'=>e=.returned (.bool (Lib.hasPrefix s.data.toList p.data.toList))/\w'=w:=Any.strings_HasPrefix Tryz.lays99 s p w
def Tryz.laysM157_ren:Go.Shelf.Ren:=⟨fun|157=>153|229=>199|199=>200|261=>231|311=>252|312=>253|n=>n,fun|9=>9|31=>23|3=>3|5=>5|4=>4|119=>208|0=>0|40=>210|152=>239|21=>21|154=>241|51=>242|141=>244|196=>262|193=>259|198=>265|49=>263|194=>260|201=>268|226=>292|46=>236|227=>293|n=>n,fun|0=>1|6=>3|n=>n⟩
theorem Tryz.laysM157:Go.Proofs.LaysM.n157 Tryz.prog Tryz.laysM157_ren:={
 mixed:=V0
 f157:=Tryz.func153.trans (congrArg some V0)
 f199:=Tryz.func200.trans (congrArg some V0)
 f229:=Tryz.func199.trans (congrArg some V0)
 f261:=Tryz.func231.trans (congrArg some V0)
 f311:=Tryz.func252.trans (congrArg some V0)
 f312:=Tryz.func253.trans (congrArg some V0)
 t0:=Tryz.underlying0
 a0:=Tryz.isAgg0
 z0:=Tryz.sizeOf0
 v0:=Tryz.zeroValue0
 t3:=Tryz.underlying3
 a3:=Tryz.isAgg3
 z3:=Tryz.sizeOf3
 v3:=Tryz.zeroValue3
 t4:=Tryz.underlying4
 a4:=Tryz.isAgg4
 z4:=Tryz.sizeOf4
 v4:=Tryz.zeroValue4
 t5:=Tryz.underlying5
 a5:=Tryz.isAgg5
 z5:=Tryz.sizeOf5
 v5:=Tryz.zeroValue5
 t9:=Tryz.underlying9
 a9:=Tryz.isAgg9
 z9:=Tryz.sizeOf9
 v9:=Tryz.zeroValue9
 t21:=Tryz.underlying21
 a21:=Tryz.isAgg21
 z21:=Tryz.sizeOf21
 v21:=Tryz.zeroValue21
 t31:=Tryz.underlying23
 a31:=Tryz.isAgg23
 z31:=Tryz.sizeOf23
 v31:=Tryz.zeroValue23
 t40:=Tryz.underlying210
 a40:=Tryz.isAgg210
 z40:=Tryz.sizeOf210
 v40:=Tryz.zeroValue210
 t46:=Tryz.underlying236
 a46:=Tryz.isAgg236
 z46:=Tryz.sizeOf236
 v46:=Tryz.zeroValue236
 t49:=Tryz.underlying263
 a49:=Tryz.isAgg263
 z49:=Tryz.sizeOf263
 v49:=Tryz.zeroValue263
 t51:=Tryz.underlying242
 a51:=Tryz.isAgg242
 z51:=Tryz.sizeOf242
 v51:=Tryz.zeroValue242
 t119:=Tryz.underlying208
 a119:=Tryz.isAgg208
 z119:=Tryz.sizeOf208
 t141:=Tryz.underlying244
 a141:=Tryz.isAgg244
 z141:=Tryz.sizeOf244
 v141:=Tryz.zeroValue244
 t152:=Tryz.underlying239
 a152:=Tryz.isAgg239
 z152:=Tryz.sizeOf239
 v152:=Tryz.zeroValue239
 t154:=Tryz.underlying241
 a154:=Tryz.isAgg241
 z154:=Tryz.sizeOf241
 v154:=Tryz.zeroValue241
 t193:=Tryz.underlying259
 a193:=Tryz.isAgg259
 z193:=Tryz.sizeOf259
 v193:=Tryz.zeroValue259
 t194:=Tryz.underlying260
 a194:=Tryz.isAgg260
 z194:=Tryz.sizeOf260
 v194:=Tryz.zeroValue260
 t196:=Tryz.underlying262
 a196:=Tryz.isAgg262
 z196:=Tryz.sizeOf262
 v196:=Tryz.zeroValue262
 t198:=Tryz.underlying265
 a198:=Tryz.isAgg265
 z198:=Tryz.sizeOf265
 v198:=Tryz.zeroValue265
 t201:=Tryz.underlying268
 a201:=Tryz.isAgg268
 z201:=Tryz.sizeOf268
 v201:=Tryz.zeroValue268
 t226:=Tryz.underlying292
 a226:=Tryz.isAgg292
 z226:=Tryz.sizeOf292
 v226:=Tryz.zeroValue292
 t227:=Tryz.underlying293
 a227:=Tryz.isAgg293
 z227:=Tryz.sizeOf293
 v227:=Tryz.zeroValue293
 g0:=V0
 g6:=V0
 i0:=V0
 i3:=V0
 i4:=V0
 i5:=V0
 i9:=V0
 i21:=V0
 i31:=V0
 i40:=V0
 i46:=V0
 i49:=V0
 i51:=V0
 i141:=V0
 i152:=V0
 i154:=V0
 i193:=V0
 i194:=V0
 i196:=V0
 i198:=V0
 i201:=V0
 i226:=V0
 i227:=V0
 m0:=V0
 m6:=V0}
open Go.RowKit Go.Lib in
theorem Tryz.strings_Fields_laid(s:bA)(w:World)(hs:s.size<4294967281)(hascii:∀(j:Nat)b,s.data.toList[j]? =some b->b.toNat<128)(OZ:Lib.TabIs Tryz.prog w "strings.asciiSpace" .u8 Lib.asciiSpaceTab):
  Calls Tryz.prog 153 #[.string s] w fun e w'=>
   e=.returned (.slice (some ⟨w.heap.size,0,none⟩) (Lib.fields s.data.toList).length (Lib.fields s.data.toList).length)/\w'=w.alloc (.cells ((Lib.fields s.data.toList).map fun l=>Value.string ⟨l.toArray⟩).toArray 9):=Any.strings_Fields_laid Tryz.laysM157 s w hs hascii OZ
def Tryz.lays109_ren:Go.Shelf.Ren:=⟨fun|109=>201|n=>n,fun|31=>23|9=>9|3=>3|0=>0|4=>4|n=>n,fun|n=>n⟩
theorem Tryz.lays109:Go.Proofs.Lays.n109 Tryz.prog Tryz.lays109_ren:={
 mixed:=V0
 f109:=Tryz.func201.trans (congrArg some V0)
 t0:=Tryz.underlying0
 a0:=Tryz.isAgg0
 z0:=Tryz.sizeOf0
 v0:=Tryz.zeroValue0
 t3:=Tryz.underlying3
 a3:=Tryz.isAgg3
 z3:=Tryz.sizeOf3
 v3:=Tryz.zeroValue3
 t4:=Tryz.underlying4
 a4:=Tryz.isAgg4
 z4:=Tryz.sizeOf4
 v4:=Tryz.zeroValue4
 t9:=Tryz.underlying9
 a9:=Tryz.isAgg9
 z9:=Tryz.sizeOf9
 v9:=Tryz.zeroValue9
 t31:=Tryz.underlying23
 a31:=Tryz.isAgg23
 z31:=Tryz.sizeOf23
 v31:=Tryz.zeroValue23}
open Go.Lib in
theorem Tryz.slices_Index_string(b off n c:Nat)(zs:List bA)(x:bA)(w:World)(hz:n<=zs.length)(rK:n<=9223372036854775807)(hc:∀j,j<zs.length->w.cell? ⟨b,off+j,none⟩=some (.string (zs.getD j ByteArray.empty))):
  Calls Tryz.prog 201 #[.slice (some ⟨b,off,none⟩) n c,.string x] w fun e w'=>e=.returned (.int .i64 (Lib.idxOfS (zs.take n) x))/\w'=w:=Any.slices_Index_string Tryz.lays109 b off n c zs x w hz rK hc
def Tryz.lays193_ren:Go.Shelf.Ren:=⟨fun|193=>89|n=>n,fun|31=>23|9=>9|4=>4|3=>3|0=>0|n=>n,fun|n=>n⟩
theorem Tryz.lays193:Go.Proofs.Lays.n193 Tryz.prog Tryz.lays193_ren:={
 mixed:=V0
 f193:=Tryz.func89.trans (congrArg some V0)
 t0:=Tryz.underlying0
 a0:=Tryz.isAgg0
 z0:=Tryz.sizeOf0
 v0:=Tryz.zeroValue0
 t3:=Tryz.underlying3
 a3:=Tryz.isAgg3
 z3:=Tryz.sizeOf3
 v3:=Tryz.zeroValue3
 t4:=Tryz.underlying4
 a4:=Tryz.isAgg4
 z4:=Tryz.sizeOf4
 v4:=Tryz.zeroValue4
 t9:=Tryz.underlying9
 a9:=Tryz.isAgg9
 z9:=Tryz.sizeOf9
 v9:=Tryz.zeroValue9
 t31:=Tryz.underlying23
 a31:=Tryz.isAgg23
 z31:=Tryz.sizeOf23
 v31:=Tryz.zeroValue23}
open Go.RowKit Go.Lib in
theorem Tryz.slices_Equal_string(b1 o1 n c b2 o2 m d:Nat)(xs ys:List bA)(w:World)(hx:n<=xs.length)(hy:m<=ys.length)(rK:n<=9223372036854775807)(JA:m<=9223372036854775807)(EV:∀j,j<xs.length->w.cell? ⟨b1,o1+j,none⟩=some (.string (xs.getD j ByteArray.empty)))(tJ:∀j,j<ys.length->w.cell? ⟨b2,o2+j,none⟩=some (.string (ys.getD j ByteArray.empty))):
  Calls Tryz.prog 89 #[.slice (some ⟨b1,o1,none⟩) n c,.slice (some ⟨b2,o2,none⟩) m d] w fun e w'=>e=.returned (.bool (decide (xs.take n=ys.take m)))/\∃q,w'=w.drewN q:=Any.slices_Equal_string Tryz.lays193 b1 o1 n c b2 o2 m d xs ys w hx hy rK JA EV tJ
open Go.RowKit Go.Lib in
theorem Tryz.slices_Equal_string_empty(a1 a2:Option Addr)(c m d:Nat)(w:World)(JA:m<=9223372036854775807):
  Calls Tryz.prog 89 #[.slice a1 0 c,.slice a2 m d] w fun e w'=>e=.returned (.bool (decide (m=0)))/\w'=w:=Any.slices_Equal_string_empty Tryz.lays193 a1 a2 c m d w JA
open Go.RowKit Go.Lib in
theorem Tryz.slices_Equal_string_lens(a1 a2:Option Addr)(n c m d:Nat)(w:World)(ET:n≠m):
  Calls Tryz.prog 89 #[.slice a1 n c,.slice a2 m d] w fun e w'=>e=.returned (.bool false)/\w'=w:=Any.slices_Equal_string_lens Tryz.lays193 a1 a2 n c m d w ET
end Go.Proofs
