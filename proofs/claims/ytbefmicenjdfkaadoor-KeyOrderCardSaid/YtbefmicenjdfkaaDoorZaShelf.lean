import Derived.Shelf.Strings.Builder1
import Derived.Shelf.Strings.Builder2
import Derived.Shelf.Strings.OnBuilder
import Derived.Shelf.Strings.Trim
import Derived.Shelf.Small.Utf8
import Derived.Shelf.Small.Bits
import Derived.Shelf.Small.Strs
import Derived.Shelf.Small.Wraps
import Derived.Shelf.Strconv.Itoa0
import Derived.Shelf.Strings.Search1
import Derived.Shelf.Strings.Search2
import Derived.Shelf.Strings.Cut
import Derived.Shelf.LaysM
import Derived.Shelf.Strings.Shaped
import Derived.Shelf.Strings.Prefix
import Derived.Shelf.Strings.Runes
import Derived.Shelf.Strings.AsciiSet
import Derived.Shelf.Unicode.DecodeSlow
import Derived.Shelf.SlSortCmp.WholeK
import Derived.Ground.SlsfProg
import Derived.Shelf.Strings.SlTrimAscii
import Derived.Test.YtbefmicenjdfkaaDoorProg
namespace Go.Proofs
open Go.Shelf
def Tryd.lays156_ren:Go.Shelf.Ren:=⟨fun|156=>63|165=>82|166=>83|169=>84|240=>95|241=>96|276=>109|277=>110|n=>n,fun|31=>23|9=>9|3=>3|4=>4|0=>0|20=>20|72=>91|76=>95|70=>88|37=>89|75=>94|127=>105|164=>117|5=>5|80=>97|n=>n,fun|n=>n⟩
theorem Tryd.lays156:Go.Proofs.Lays.n156 Tryd.prog Tryd.lays156_ren:={
 mixed:=by kernel_rfl
 f156:=Tryd.func63.trans (congrArg some (by kernel_rfl))
 f165:=Tryd.func82.trans (congrArg some (by kernel_rfl))
 f166:=Tryd.func83.trans (congrArg some (by kernel_rfl))
 f169:=Tryd.func84.trans (congrArg some (by kernel_rfl))
 f240:=Tryd.func95.trans (congrArg some (by kernel_rfl))
 f241:=Tryd.func96.trans (congrArg some (by kernel_rfl))
 f276:=Tryd.func109.trans (congrArg some (by kernel_rfl))
 f277:=Tryd.func110.trans (congrArg some (by kernel_rfl))
 t0:=Tryd.underlying0
 a0:=Tryd.isAgg0
 z0:=Tryd.sizeOf0
 v0:=Tryd.zeroValue0
 t3:=Tryd.underlying3
 a3:=Tryd.isAgg3
 z3:=Tryd.sizeOf3
 v3:=Tryd.zeroValue3
 t4:=Tryd.underlying4
 a4:=Tryd.isAgg4
 z4:=Tryd.sizeOf4
 v4:=Tryd.zeroValue4
 t9:=Tryd.underlying9
 a9:=Tryd.isAgg9
 z9:=Tryd.sizeOf9
 v9:=Tryd.zeroValue9
 t20:=Tryd.underlying20
 a20:=Tryd.isAgg20
 z20:=Tryd.sizeOf20
 v20:=Tryd.zeroValue20
 t31:=Tryd.underlying23
 a31:=Tryd.isAgg23
 z31:=Tryd.sizeOf23
 v31:=Tryd.zeroValue23
 t37:=Tryd.underlying89
 a37:=Tryd.isAgg89
 z37:=Tryd.sizeOf89
 v37:=Tryd.zeroValue89
 t70:=Tryd.underlying88
 a70:=Tryd.isAgg88
 z70:=Tryd.sizeOf88
 v70:=Tryd.zeroValue88
 t72:=Tryd.underlying91
 a72:=Tryd.isAgg91
 z72:=Tryd.sizeOf91
 v72:=Tryd.zeroValue91
 t75:=Tryd.underlying94
 a75:=Tryd.isAgg94
 z75:=Tryd.sizeOf94
 v75:=Tryd.zeroValue94
 t76:=Tryd.underlying95
 a76:=Tryd.isAgg95
 z76:=Tryd.sizeOf95
 v76:=Tryd.zeroValue95
 t127:=Tryd.underlying105
 a127:=Tryd.isAgg105
 z127:=Tryd.sizeOf105
 v127:=Tryd.zeroValue105
 t164:=Tryd.underlying117
 a164:=Tryd.isAgg117
 z164:=Tryd.sizeOf117
 v164:=Tryd.zeroValue117 }
theorem Tryd.Builder_Extra_156:Builder.Extra Tryd.prog Tryd.lays156_ren:={
 sizeBuilder:=by kernel_rfl
 liesBuilder:=by kernel_rfl
 t5:=Tryd.underlying5
 a5:=Tryd.isAgg5
 z5:=Tryd.sizeOf5
 v5:=Tryd.zeroValue5
 infoByte:=by kernel_rfl
 cellsByte:=by kernel_rfl
 sizeByte:=by kernel_rfl
 neB5:=by decide }
open Go.RowKit in
theorem Tryd.strings_Join_none (a:Option Addr) (c:Nat) (sep:ByteArray) (w:World) :
  Calls Tryd.prog 63 #[.slice a 0 c, .string sep] w fun e w'=>e = .returned (.string ⟨#[]⟩)∧w'=w:=Any.strings_Join_none Tryd.lays156 Tryd.Builder_Extra_156 a c sep w
open Go.RowKit in
theorem Tryd.strings_Join (bk o c:Nat) (xs:List ByteArray) (sep:ByteArray) (w:World) (hcells:∀ (j:Nat) x,xs[j]?=some x→w.cell? ⟨bk,o+j,none⟩=some (.string x)) (hbk:bk<w.heap.size) (hN:xs.length≤140737488355328) (hcap:xs.length≤c) (hlen:(Lib.join (xs.map (·.data.toList)) sep.data.toList).length≤140737488355328) :
  Calls Tryd.prog 63 #[.slice (some ⟨bk,o,none⟩) xs.length c, .string sep] w fun e w'=>e = .returned (.string ⟨(Lib.join (xs.map (·.data.toList)) sep.data.toList).toArray⟩)∧Below w.heap.size w w':=Any.strings_Join Tryd.lays156 Tryd.Builder_Extra_156 bk o c xs sep w hcells hbk hN hcap hlen
def Tryd.lays160_ren:Go.Shelf.Ren:=⟨fun|160=>87|232=>102|231=>101|227=>103|234=>105|233=>104|236=>107|235=>106|228=>112|271=>115|151=>114|197=>113|120=>118|152=>117|260=>116|137=>65|119=>119|224=>99|225=>98|217=>85|266=>97|n=>n,fun|9=>9|4=>4|3=>3|5=>5|117=>110|116=>109|0=>0|124=>113|21=>21|105=>122|46=>69|119=>126|139=>129|138=>128|n=>n,fun|3=>1|4=>2|n=>n⟩
theorem Tryd.lays160:Go.Proofs.Lays.n160 Tryd.prog Tryd.lays160_ren:={
 mixed:=by kernel_rfl
 f119:=Tryd.func119.trans (congrArg some (by kernel_rfl))
 f120:=Tryd.func118.trans (congrArg some (by kernel_rfl))
 f137:=Tryd.func65.trans (congrArg some (by kernel_rfl))
 f151:=Tryd.func114.trans (congrArg some (by kernel_rfl))
 f152:=Tryd.func117.trans (congrArg some (by kernel_rfl))
 f160:=Tryd.func87.trans (congrArg some (by kernel_rfl))
 f197:=Tryd.func113.trans (congrArg some (by kernel_rfl))
 f217:=Tryd.func85.trans (congrArg some (by kernel_rfl))
 f224:=Tryd.func99.trans (congrArg some (by kernel_rfl))
 f225:=Tryd.func98.trans (congrArg some (by kernel_rfl))
 f227:=Tryd.func103.trans (congrArg some (by kernel_rfl))
 f228:=Tryd.func112.trans (congrArg some (by kernel_rfl))
 f231:=Tryd.func101.trans (congrArg some (by kernel_rfl))
 f232:=Tryd.func102.trans (congrArg some (by kernel_rfl))
 f233:=Tryd.func104.trans (congrArg some (by kernel_rfl))
 f234:=Tryd.func105.trans (congrArg some (by kernel_rfl))
 f235:=Tryd.func106.trans (congrArg some (by kernel_rfl))
 f236:=Tryd.func107.trans (congrArg some (by kernel_rfl))
 f260:=Tryd.func116.trans (congrArg some (by kernel_rfl))
 f266:=Tryd.func97.trans (congrArg some (by kernel_rfl))
 f271:=Tryd.func115.trans (congrArg some (by kernel_rfl))
 t0:=Tryd.underlying0
 a0:=Tryd.isAgg0
 z0:=Tryd.sizeOf0
 v0:=Tryd.zeroValue0
 t3:=Tryd.underlying3
 a3:=Tryd.isAgg3
 z3:=Tryd.sizeOf3
 v3:=Tryd.zeroValue3
 t4:=Tryd.underlying4
 a4:=Tryd.isAgg4
 z4:=Tryd.sizeOf4
 v4:=Tryd.zeroValue4
 t5:=Tryd.underlying5
 a5:=Tryd.isAgg5
 z5:=Tryd.sizeOf5
 v5:=Tryd.zeroValue5
 t9:=Tryd.underlying9
 a9:=Tryd.isAgg9
 z9:=Tryd.sizeOf9
 v9:=Tryd.zeroValue9
 t21:=Tryd.underlying21
 a21:=Tryd.isAgg21
 z21:=Tryd.sizeOf21
 v21:=Tryd.zeroValue21
 t46:=Tryd.underlying69
 a46:=Tryd.isAgg69
 z46:=Tryd.sizeOf69
 v46:=Tryd.zeroValue69
 t105:=Tryd.underlying122
 a105:=Tryd.isAgg122
 z105:=Tryd.sizeOf122
 v105:=Tryd.zeroValue122
 t116:=Tryd.underlying109
 a116:=Tryd.isAgg109
 z116:=Tryd.sizeOf109
 t117:=Tryd.underlying110
 a117:=Tryd.isAgg110
 z117:=Tryd.sizeOf110
 v117:=Tryd.zeroValue110
 t119:=Tryd.underlying126
 a119:=Tryd.isAgg126
 z119:=Tryd.sizeOf126
 t124:=Tryd.underlying113
 a124:=Tryd.isAgg113
 z124:=Tryd.sizeOf113
 v124:=Tryd.zeroValue113
 t138:=Tryd.underlying128
 a138:=Tryd.isAgg128
 z138:=Tryd.sizeOf128
 v138:=Tryd.zeroValue128
 t139:=Tryd.underlying129
 a139:=Tryd.isAgg129
 z139:=Tryd.sizeOf129
 v139:=Tryd.zeroValue129
 g3:=by kernel_rfl
 g4:=by kernel_rfl }
open Go.RowKit in
def Tryd.lays106_ren:Go.Shelf.Ren:=⟨fun|106=>61|213=>81|265=>94|n=>n,fun|9=>9|3=>3|n=>n,fun|n=>n⟩
theorem Tryd.lays106:Go.Proofs.Lays.n106 Tryd.prog Tryd.lays106_ren:={
 mixed:=by kernel_rfl
 f106:=Tryd.func61.trans (congrArg some (by kernel_rfl))
 f213:=Tryd.func81.trans (congrArg some (by kernel_rfl))
 f265:=Tryd.func94.trans (congrArg some (by kernel_rfl))
 t3:=Tryd.underlying3
 a3:=Tryd.isAgg3
 z3:=Tryd.sizeOf3
 v3:=Tryd.zeroValue3
 t9:=Tryd.underlying9
 a9:=Tryd.isAgg9
 z9:=Tryd.sizeOf9
 v9:=Tryd.zeroValue9 }
open Go.RowKit in
theorem Tryd.strings_Compare (a b:ByteArray) (w:World) :
  Calls Tryd.prog 61 #[.string a, .string b] w fun e w'=>e = .returned (.int .i64 (Lib.compareBytes a.data.toList b.data.toList))∧w'=w:=Any.strings_Compare Tryd.lays106 a b w
def Tryd.lays137_ren:Go.Shelf.Ren:=⟨fun|137=>65|217=>85|266=>97|n=>n,fun|9=>9|5=>5|3=>3|n=>n,fun|n=>n⟩
theorem Tryd.lays137:Go.Proofs.Lays.n137 Tryd.prog Tryd.lays137_ren:={
 mixed:=by kernel_rfl
 f137:=Tryd.func65.trans (congrArg some (by kernel_rfl))
 f217:=Tryd.func85.trans (congrArg some (by kernel_rfl))
 f266:=Tryd.func97.trans (congrArg some (by kernel_rfl))
 t3:=Tryd.underlying3
 a3:=Tryd.isAgg3
 z3:=Tryd.sizeOf3
 v3:=Tryd.zeroValue3
 t5:=Tryd.underlying5
 a5:=Tryd.isAgg5
 z5:=Tryd.sizeOf5
 v5:=Tryd.zeroValue5
 t9:=Tryd.underlying9
 a9:=Tryd.isAgg9
 z9:=Tryd.sizeOf9
 v9:=Tryd.zeroValue9 }
open Go.RowKit in
theorem Tryd.strings_IndexByte (s:ByteArray) (c:Int) (w:World) :
  Calls Tryd.prog 65 #[.string s, .int .u8 c] w fun e w'=>e = .returned (.int .i64 (Lib.indexByte s.data.toList c.toNat.toUInt8))∧w'=w:=Any.strings_IndexByte Tryd.lays137 s c w
def Tryd.lays211_ren:Go.Shelf.Ren:=⟨fun|211=>70|207=>88|n=>n,fun|9=>9|4=>4|3=>3|n=>n,fun|n=>n⟩
theorem Tryd.lays211:Go.Proofs.Lays.n211 Tryd.prog Tryd.lays211_ren:={
 mixed:=by kernel_rfl
 f207:=Tryd.func88.trans (congrArg some (by kernel_rfl))
 f211:=Tryd.func70.trans (congrArg some (by kernel_rfl))
 t3:=Tryd.underlying3
 a3:=Tryd.isAgg3
 z3:=Tryd.sizeOf3
 v3:=Tryd.zeroValue3
 t4:=Tryd.underlying4
 a4:=Tryd.isAgg4
 z4:=Tryd.sizeOf4
 v4:=Tryd.zeroValue4
 t9:=Tryd.underlying9
 a9:=Tryd.isAgg9
 z9:=Tryd.sizeOf9
 v9:=Tryd.zeroValue9 }
open Go.RowKit in
theorem Tryd.stringslite_CutSuffix (s p:ByteArray) (w:World) (hs:s.size≤9223372036854775807) :
  Calls Tryd.prog 70 #[.string s, .string p] w fun e w'=>e = .returned (.tuple #[.string ⟨(Lib.trimSuffix s.data.toList p.data.toList).toArray⟩, .bool (Lib.hasSuffix s.data.toList p.data.toList)])∧w'=w:=Any.stringslite_CutSuffix Tryd.lays211 s p w hs
def Tryd.lays104_ren:Go.Shelf.Ren:=⟨fun|104=>55|211=>70|207=>88|n=>n,fun|9=>9|4=>4|24=>29|3=>3|n=>n,fun|n=>n⟩
theorem Tryd.lays104:Go.Proofs.Lays.n104 Tryd.prog Tryd.lays104_ren:={
 mixed:=by kernel_rfl
 f104:=Tryd.func55.trans (congrArg some (by kernel_rfl))
 f207:=Tryd.func88.trans (congrArg some (by kernel_rfl))
 f211:=Tryd.func70.trans (congrArg some (by kernel_rfl))
 t3:=Tryd.underlying3
 a3:=Tryd.isAgg3
 z3:=Tryd.sizeOf3
 v3:=Tryd.zeroValue3
 t4:=Tryd.underlying4
 a4:=Tryd.isAgg4
 z4:=Tryd.sizeOf4
 v4:=Tryd.zeroValue4
 t9:=Tryd.underlying9
 a9:=Tryd.isAgg9
 z9:=Tryd.sizeOf9
 v9:=Tryd.zeroValue9
 t24:=Tryd.underlying29
 a24:=Tryd.isAgg29
 z24:=Tryd.sizeOf29
 v24:=Tryd.zeroValue29 }
open Go.RowKit in
theorem Tryd.strings_CutSuffix (s p:ByteArray) (w:World) (hs:s.size≤9223372036854775807) :
  Calls Tryd.prog 55 #[.string s, .string p] w fun e w'=>e = .returned (.tuple #[.string ⟨(Lib.trimSuffix s.data.toList p.data.toList).toArray⟩, .bool (Lib.hasSuffix s.data.toList p.data.toList)])∧w'=w:=Any.strings_CutSuffix Tryd.lays104 s p w hs
open Go.RowKit Go.Lib in
def Tryd.lays219_ren:Go.Shelf.Ren:=⟨fun|219=>86|217=>85|225=>98|224=>99|267=>100|266=>97|314=>111|n=>n,fun|9=>9|3=>3|4=>4|5=>5|46=>69|146=>120|51=>85|n=>n,fun|1=>0|n=>n⟩
theorem Tryd.lays219:Go.Proofs.Lays.n219 Tryd.prog Tryd.lays219_ren:={
 mixed:=by kernel_rfl
 f217:=Tryd.func85.trans (congrArg some (by kernel_rfl))
 f219:=Tryd.func86.trans (congrArg some (by kernel_rfl))
 f224:=Tryd.func99.trans (congrArg some (by kernel_rfl))
 f225:=Tryd.func98.trans (congrArg some (by kernel_rfl))
 f266:=Tryd.func97.trans (congrArg some (by kernel_rfl))
 f267:=Tryd.func100.trans (congrArg some (by kernel_rfl))
 f314:=Tryd.func111.trans (congrArg some (by kernel_rfl))
 t3:=Tryd.underlying3
 a3:=Tryd.isAgg3
 z3:=Tryd.sizeOf3
 v3:=Tryd.zeroValue3
 t4:=Tryd.underlying4
 a4:=Tryd.isAgg4
 z4:=Tryd.sizeOf4
 v4:=Tryd.zeroValue4
 t5:=Tryd.underlying5
 a5:=Tryd.isAgg5
 z5:=Tryd.sizeOf5
 v5:=Tryd.zeroValue5
 t9:=Tryd.underlying9
 a9:=Tryd.isAgg9
 z9:=Tryd.sizeOf9
 v9:=Tryd.zeroValue9
 t46:=Tryd.underlying69
 a46:=Tryd.isAgg69
 z46:=Tryd.sizeOf69
 v46:=Tryd.zeroValue69
 t51:=Tryd.underlying85
 a51:=Tryd.isAgg85
 z51:=Tryd.sizeOf85
 v51:=Tryd.zeroValue85
 t146:=Tryd.underlying120
 a146:=Tryd.isAgg120
 z146:=Tryd.sizeOf120
 v146:=Tryd.zeroValue120
 g1:=by kernel_rfl }
open Go.RowKit Go.Lib in
theorem Tryd.stringslite_Index_one (s:ByteArray) (c:UInt8) (w:World) :
  Calls Tryd.prog 86 #[.string s, .string ⟨#[c]⟩] w fun e w'=>e = .returned (.int .i64 (Lib.indexByte s.data.toList c))∧w'=w:=Any.stringslite_Index_one Tryd.lays219 s c w
def Tryd.lays207_ren:Go.Shelf.Ren:=⟨fun|207=>88|n=>n,fun|9=>9|4=>4|3=>3|n=>n,fun|n=>n⟩
theorem Tryd.lays207:Go.Proofs.Lays.n207 Tryd.prog Tryd.lays207_ren:={
 mixed:=by kernel_rfl
 f207:=Tryd.func88.trans (congrArg some (by kernel_rfl))
 t3:=Tryd.underlying3
 a3:=Tryd.isAgg3
 z3:=Tryd.sizeOf3
 v3:=Tryd.zeroValue3
 t4:=Tryd.underlying4
 a4:=Tryd.isAgg4
 z4:=Tryd.sizeOf4
 v4:=Tryd.zeroValue4
 t9:=Tryd.underlying9
 a9:=Tryd.isAgg9
 z9:=Tryd.sizeOf9
 v9:=Tryd.zeroValue9 }
open Go.RowKit Go.Lib in
theorem Tryd.stringslite_HasSuffix (s p:ByteArray) (w:World) (hs:s.size≤9223372036854775807) :
  Calls Tryd.prog 88 #[.string s, .string p] w fun e w'=>e = .returned (.bool (Lib.hasSuffix s.data.toList p.data.toList))∧w'=w:=Any.stringslite_HasSuffix Tryd.lays207 s p w hs
def Tryd.sort42_ren:Go.Shelf.Ren:=⟨fun|6=>42|15=>60|14=>59|28=>79|29=>80|20=>71|21=>72|22=>73|23=>74|24=>75|25=>76|26=>77|27=>78|46=>89|47=>90|48=>91|49=>92|50=>93|57=>108|n=>n,fun|22=>22|24=>52|25=>57|3=>3|39=>69|0=>0|53=>85|55=>87|4=>4|46=>78|45=>77|50=>82|5=>5|9=>9|66=>99|70=>103|76=>114|77=>115|n=>n,fun|n=>n⟩
theorem Tryd.sort42:Go.Proofs.SlLaysF0.n6 Tryd.prog Tryd.sort42_ren:={
 mixed:=by kernel_rfl
 f6:=⟨Tryd.f42.name,by decide,Tryd.func42.trans (congrArg some (by kernel_rfl))⟩
 f14:=⟨Tryd.f59.name,by decide,Tryd.func59.trans (congrArg some (by kernel_rfl))⟩
 f15:=Tryd.func60.trans (congrArg some (by kernel_rfl))
 f20:=⟨Tryd.f71.name,by decide,Tryd.func71.trans (congrArg some (by kernel_rfl))⟩
 f21:=⟨Tryd.f72.name,by decide,Tryd.func72.trans (congrArg some (by kernel_rfl))⟩
 f22:=⟨Tryd.f73.name,by decide,Tryd.func73.trans (congrArg some (by kernel_rfl))⟩
 f23:=⟨Tryd.f74.name,by decide,Tryd.func74.trans (congrArg some (by kernel_rfl))⟩
 f24:=⟨Tryd.f75.name,by decide,Tryd.func75.trans (congrArg some (by kernel_rfl))⟩
 f25:=⟨Tryd.f76.name,by decide,Tryd.func76.trans (congrArg some (by kernel_rfl))⟩
 f26:=⟨Tryd.f77.name,by decide,Tryd.func77.trans (congrArg some (by kernel_rfl))⟩
 f27:=⟨Tryd.f78.name,by decide,Tryd.func78.trans (congrArg some (by kernel_rfl))⟩
 f28:=Tryd.func79.trans (congrArg some (by kernel_rfl))
 f29:=Tryd.func80.trans (congrArg some (by kernel_rfl))
 f46:=⟨Tryd.f89.name,by decide,Tryd.func89.trans (congrArg some (by kernel_rfl))⟩
 f47:=Tryd.func90.trans (congrArg some (by kernel_rfl))
 f48:=Tryd.func91.trans (congrArg some (by kernel_rfl))
 f49:=⟨Tryd.f92.name,by decide,Tryd.func92.trans (congrArg some (by kernel_rfl))⟩
 f50:=⟨Tryd.f93.name,by decide,Tryd.func93.trans (congrArg some (by kernel_rfl))⟩
 f57:=⟨Tryd.f108.name,by decide,Tryd.func108.trans (congrArg some (by kernel_rfl))⟩
 t0:=Tryd.underlying0
 a0:=Tryd.isAgg0
 z0:=Tryd.sizeOf0
 v0:=Tryd.zeroValue0
 t3:=Tryd.underlying3
 a3:=Tryd.isAgg3
 z3:=Tryd.sizeOf3
 v3:=Tryd.zeroValue3
 t4:=Tryd.underlying4
 a4:=Tryd.isAgg4
 z4:=Tryd.sizeOf4
 v4:=Tryd.zeroValue4
 t5:=Tryd.underlying5
 a5:=Tryd.isAgg5
 z5:=Tryd.sizeOf5
 v5:=Tryd.zeroValue5
 t9:=Tryd.underlying9
 a9:=Tryd.isAgg9
 z9:=Tryd.sizeOf9
 v9:=Tryd.zeroValue9
 t22:=Tryd.underlying22
 a22:=Tryd.isAgg22
 z22:=Tryd.sizeOf22
 v22:=Tryd.zeroValue22
 t25:=Tryd.underlying57
 a25:=Tryd.isAgg57
 z25:=Tryd.sizeOf57
 v25:=Tryd.zeroValue57
 t39:=Tryd.underlying69
 a39:=Tryd.isAgg69
 z39:=Tryd.sizeOf69
 v39:=Tryd.zeroValue69
 t45:=Tryd.underlying77
 a45:=Tryd.isAgg77
 z45:=Tryd.sizeOf77
 v45:=Tryd.zeroValue77
 t46:=Tryd.underlying78
 a46:=Tryd.isAgg78
 z46:=Tryd.sizeOf78
 v46:=Tryd.zeroValue78
 t50:=Tryd.underlying82
 a50:=Tryd.isAgg82
 z50:=Tryd.sizeOf82
 v50:=Tryd.zeroValue82
 t53:=Tryd.underlying85
 a53:=Tryd.isAgg85
 z53:=Tryd.sizeOf85
 v53:=Tryd.zeroValue85
 t55:=Tryd.underlying87
 a55:=Tryd.isAgg87
 z55:=Tryd.sizeOf87
 v55:=Tryd.zeroValue87
 t66:=Tryd.underlying99
 a66:=Tryd.isAgg99
 z66:=Tryd.sizeOf99
 v66:=Tryd.zeroValue99
 t70:=Tryd.underlying103
 a70:=Tryd.isAgg103
 z70:=Tryd.sizeOf103
 v70:=Tryd.zeroValue103
 t76:=Tryd.underlying114
 a76:=Tryd.isAgg114
 z76:=Tryd.sizeOf114
 v76:=Tryd.zeroValue114
 t77:=Tryd.underlying115
 a77:=Tryd.isAgg115
 z77:=Tryd.sizeOf115
 v77:=Tryd.zeroValue115 }
end Go.Proofs
