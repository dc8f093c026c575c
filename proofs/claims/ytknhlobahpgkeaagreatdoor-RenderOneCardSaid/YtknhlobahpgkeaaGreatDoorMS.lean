/-
  DERIVED: THE SHELF's CONTRACTS AT THIS DUMP, IN PLAIN WORDS (tools/lay-plain.
-/
import Derived.Shelf.Strings.Builder1
import Derived.Shelf.Strings.Builder2
import Derived.Shelf.Strings.OnBuilder
import Derived.Shelf.Strings.Trim
import Derived.Shelf.Small.Utf8
import Derived.Shelf.Small.Strs
import Derived.Shelf.Small.Wraps
import Derived.Shelf.Strings.BuilderF
import Derived.Shelf.Strings.BuilderK
import Derived.Shelf.Utf8.RuneCount
import Derived.Shelf.Strings.Builder2Cap
import Derived.Shelf.Strings.Search1
import Derived.Shelf.Strings.Search2
import Derived.Shelf.Strings.Search3
import Derived.Shelf.Strings.Cut
import Derived.Shelf.Strings.Count
import Derived.Shelf.LaysM
import Derived.Shelf.Strings.Shaped
import Derived.Shelf.GgClosure.StringsIndexFunc
import Derived.Ground.GgwProg
import Derived.Shelf.GgClosure.StringsIndexFuncTop
import Derived.Shelf.GgClosure.StringsRunes
import Derived.Shelf.Strings.Prefix
import Derived.Shelf.Strings.Split
import Derived.Shelf.Strings.SplitShaped
import Derived.Shelf.Unicode.Decode
import Derived.Shelf.Strings.Runes
import Derived.Shelf.Strings.RuneCount
import Derived.Shelf.Strings.IndexAny
import Derived.Shelf.Strings.AsciiSet
import Derived.Shelf.Strings.IndexAnyAll
import Derived.Shelf.Strings.Explode
import Derived.Shelf.Bits.Mul64
import Derived.Shelf.Unicode.DecodeSlow
import Derived.Shelf.Unicode.DecodeAny
import Derived.Shelf.Unicode.DecodeLast
import Derived.Shelf.Strings.FuncGrows
import Derived.Shelf.Strings.BuilderCap
import Derived.Ground.Names2Prog
import Derived.Shelf.Slices.SearchI
import Derived.Ground.SlgnProg
import Derived.Shelf.SlicesG.SearchI
import Derived.Shelf.Strings.SlTrimAscii
import Derived.Test.YtknhlobahpgkeaaGreatDoorProg
set_option linter.all false
namespace Go.Proofs.Tryz
open Go.Shelf
theorem eu {α : Type} {a b : α} {c : Option α} (h : c = some a) (e : a = b) : c = some b := h.trans (congrArg some e)
def Si:Go.Shelf.Ren:=⟨fun|161=>94|231=>115|227=>116|233=>117|235=>118|228=>143|197=>149|151=>82|260=>173|152=>103|137=>65|119=>139|224=>140|225=>141|217=>91|266=>113|n=>n,fun|9=>9|4=>4|3=>3|5=>5|117=>182|116=>181|0=>0|124=>185|105=>214|21=>21|119=>251|46=>203|139=>254|138=>253|n=>n,fun|3=>5|4=>6|n=>n⟩
theorem lays161:Go.Proofs.Lays.n161 prog Si:=⟨by kernel_rfl,eu func139 (by kernel_rfl),eu func65 (by kernel_rfl),eu func82 (by kernel_rfl),eu func103 (by kernel_rfl),eu func94 (by kernel_rfl),eu func149 (by kernel_rfl),eu func91 (by kernel_rfl),eu func140 (by kernel_rfl),eu func141 (by kernel_rfl),eu func116 (by kernel_rfl),eu func143 (by kernel_rfl),eu func115 (by kernel_rfl),eu func117 (by kernel_rfl),eu func118 (by kernel_rfl),eu func173 (by kernel_rfl),eu func113 (by kernel_rfl),underlying0,isAgg0,sizeOf0,zeroValue0,underlying3,isAgg3,sizeOf3,zeroValue3,underlying4,isAgg4,sizeOf4,zeroValue4,underlying5,isAgg5,sizeOf5,zeroValue5,underlying9,isAgg9,sizeOf9,zeroValue9,underlying21,isAgg21,sizeOf21,zeroValue21,underlying203,isAgg203,sizeOf203,zeroValue203,underlying214,isAgg214,sizeOf214,zeroValue214,underlying181,isAgg181,sizeOf181,underlying182,isAgg182,sizeOf182,zeroValue182,underlying251,isAgg251,sizeOf251,underlying185,isAgg185,sizeOf185,zeroValue185,underlying253,isAgg253,sizeOf253,zeroValue253,underlying254,isAgg254,sizeOf254,zeroValue254,by kernel_rfl,by kernel_rfl⟩
def Sj:Go.Shelf.Ren:=⟨fun|162=>184|232=>136|227=>116|234=>137|236=>138|228=>143|271=>164|151=>82|120=>185|197=>149|152=>103|260=>173|137=>65|119=>139|224=>140|225=>141|217=>91|266=>113|n=>n,fun|9=>9|4=>4|3=>3|5=>5|117=>182|116=>181|0=>0|124=>185|21=>21|105=>214|46=>203|119=>251|139=>254|138=>253|n=>n,fun|3=>5|4=>6|n=>n⟩
theorem lays162:Go.Proofs.Lays.n162 prog Sj:=⟨by kernel_rfl,eu func139 (by kernel_rfl),eu func185 (by kernel_rfl),eu func65 (by kernel_rfl),eu func82 (by kernel_rfl),eu func103 (by kernel_rfl),eu func184 (by kernel_rfl),eu func149 (by kernel_rfl),eu func91 (by kernel_rfl),eu func140 (by kernel_rfl),eu func141 (by kernel_rfl),eu func116 (by kernel_rfl),eu func143 (by kernel_rfl),eu func136 (by kernel_rfl),eu func137 (by kernel_rfl),eu func138 (by kernel_rfl),eu func173 (by kernel_rfl),eu func113 (by kernel_rfl),eu func164 (by kernel_rfl),underlying0,isAgg0,sizeOf0,zeroValue0,underlying3,isAgg3,sizeOf3,zeroValue3,underlying4,isAgg4,sizeOf4,zeroValue4,underlying5,isAgg5,sizeOf5,zeroValue5,underlying9,isAgg9,sizeOf9,zeroValue9,underlying21,isAgg21,sizeOf21,zeroValue21,underlying203,isAgg203,sizeOf203,zeroValue203,underlying214,isAgg214,sizeOf214,zeroValue214,underlying181,isAgg181,sizeOf181,underlying182,isAgg182,sizeOf182,zeroValue182,underlying251,isAgg251,sizeOf251,underlying185,isAgg185,sizeOf185,zeroValue185,underlying253,isAgg253,sizeOf253,zeroValue253,underlying254,isAgg254,sizeOf254,zeroValue254,by kernel_rfl,by kernel_rfl⟩
def Sk:Go.Shelf.Ren:=⟨fun|160=>102|232=>136|231=>115|227=>116|234=>137|233=>117|236=>138|235=>118|228=>143|271=>164|151=>82|197=>149|120=>185|152=>103|260=>173|137=>65|119=>139|224=>140|225=>141|217=>91|266=>113|n=>n,fun|9=>9|4=>4|3=>3|5=>5|117=>182|116=>181|0=>0|124=>185|21=>21|105=>214|46=>203|119=>251|139=>254|138=>253|n=>n,fun|3=>5|4=>6|n=>n⟩
theorem lays160:Go.Proofs.Lays.n160 prog Sk:=⟨by kernel_rfl,eu func139 (by kernel_rfl),eu func185 (by kernel_rfl),eu func65 (by kernel_rfl),eu func82 (by kernel_rfl),eu func103 (by kernel_rfl),eu func102 (by kernel_rfl),eu func149 (by kernel_rfl),eu func91 (by kernel_rfl),eu func140 (by kernel_rfl),eu func141 (by kernel_rfl),eu func116 (by kernel_rfl),eu func143 (by kernel_rfl),eu func115 (by kernel_rfl),eu func136 (by kernel_rfl),eu func117 (by kernel_rfl),eu func137 (by kernel_rfl),eu func118 (by kernel_rfl),eu func138 (by kernel_rfl),eu func173 (by kernel_rfl),eu func113 (by kernel_rfl),eu func164 (by kernel_rfl),underlying0,isAgg0,sizeOf0,zeroValue0,underlying3,isAgg3,sizeOf3,zeroValue3,underlying4,isAgg4,sizeOf4,zeroValue4,underlying5,isAgg5,sizeOf5,zeroValue5,underlying9,isAgg9,sizeOf9,zeroValue9,underlying21,isAgg21,sizeOf21,zeroValue21,underlying203,isAgg203,sizeOf203,zeroValue203,underlying214,isAgg214,sizeOf214,zeroValue214,underlying181,isAgg181,sizeOf181,underlying182,isAgg182,sizeOf182,zeroValue182,underlying251,isAgg251,sizeOf251,underlying185,isAgg185,sizeOf185,zeroValue185,underlying253,isAgg253,sizeOf253,zeroValue253,underlying254,isAgg254,sizeOf254,zeroValue254,by kernel_rfl,by kernel_rfl⟩
def Sl:Go.Shelf.Ren:=⟨fun|119=>139|n=>n,fun|21=>21|4=>4|n=>n,fun|n=>n⟩
theorem lays119:Go.Proofs.Lays.n119 prog Sl:=⟨by kernel_rfl,eu func139 (by kernel_rfl),underlying4,isAgg4,sizeOf4,zeroValue4,underlying21,isAgg21,sizeOf21,zeroValue21⟩
theorem utf8_ValidRune (r:Int) (w:World):
 Calls prog 139 #[.int .i32 r] w fun e w'=>e=.returned (.bool (Lib.validRune r))∧w'=w:=Any.utf8_ValidRune lays119 r w
def Sm:Go.Shelf.Ren:=⟨fun|137=>65|217=>91|266=>113|n=>n,fun|9=>9|5=>5|3=>3|n=>n,fun|n=>n⟩
theorem lays137:Go.Proofs.Lays.n137 prog Sm:=⟨by kernel_rfl,eu func65 (by kernel_rfl),eu func91 (by kernel_rfl),eu func113 (by kernel_rfl),underlying3,isAgg3,sizeOf3,zeroValue3,underlying5,isAgg5,sizeOf5,zeroValue5,underlying9,isAgg9,sizeOf9,zeroValue9⟩
open Go.RowKit in
theorem strings_IndexByte (s:ByteArray) (c:Int) (w:World):
 Calls prog 65 #[.string s,.int .u8 c] w fun e w'=>e=.returned (.int .i64 (Lib.indexByte s.data.toList c.toNat.toUInt8))∧w'=w:=Any.strings_IndexByte lays137 s c w
def Sn:Go.Shelf.Ren:=⟨fun|103=>150|210=>174|206=>195|n=>n,fun|9=>9|4=>4|24=>137|3=>3|n=>n,fun|n=>n⟩
theorem lays103:Go.Proofs.Lays.n103 prog Sn:=⟨by kernel_rfl,eu func150 (by kernel_rfl),eu func195 (by kernel_rfl),eu func174 (by kernel_rfl),underlying3,isAgg3,sizeOf3,zeroValue3,underlying4,isAgg4,sizeOf4,zeroValue4,underlying9,isAgg9,sizeOf9,zeroValue9,underlying137,isAgg137,sizeOf137,zeroValue137⟩
open Go.RowKit in
theorem strings_CutPrefix (s p:ByteArray) (w:World):
 Calls prog 150 #[.string s,.string p] w fun e w'=>e=.returned (.tuple #[.string ⟨(Lib.trimPrefix s.data.toList p.data.toList).toArray⟩,.bool (Lib.hasPrefix s.data.toList p.data.toList)])∧w'=w:=Any.strings_CutPrefix lays103 s p w
def Sq:Go.Shelf.Ren:=⟨fun|145=>145|220=>165|219=>186|217=>91|225=>141|224=>140|267=>202|266=>113|314=>209|n=>n,fun|9=>9|4=>4|59=>206|3=>3|5=>5|46=>203|146=>263|51=>262|n=>n,fun|1=>3|n=>n⟩
theorem lays145:Go.Proofs.Lays.n145 prog Sq:=⟨by kernel_rfl,eu func145 (by kernel_rfl),eu func91 (by kernel_rfl),eu func186 (by kernel_rfl),eu func165 (by kernel_rfl),eu func140 (by kernel_rfl),eu func141 (by kernel_rfl),eu func113 (by kernel_rfl),eu func202 (by kernel_rfl),eu func209 (by kernel_rfl),underlying3,isAgg3,sizeOf3,zeroValue3,underlying4,isAgg4,sizeOf4,zeroValue4,underlying5,isAgg5,sizeOf5,zeroValue5,underlying9,isAgg9,sizeOf9,zeroValue9,underlying203,isAgg203,sizeOf203,zeroValue203,underlying262,isAgg262,sizeOf262,zeroValue262,underlying206,isAgg206,sizeOf206,zeroValue206,underlying263,isAgg263,sizeOf263,zeroValue263,by kernel_rfl⟩
open Go.RowKit Go.Lib in
theorem strings_Cut (s sep:ByteArray) (m:Int) (w:World) (hs:s.size<4294967281) (hm:w.cell? ⟨3,0,none⟩=some (.int .i64 m)):
 Calls prog 145 #[.string s,.string sep] w fun e w'=>e=.returned (.tuple #[.string ⟨(Lib.cut s.data.toList sep.data.toList).1.toArray⟩,.string ⟨(Lib.cut s.data.toList sep.data.toList).2.1.toArray⟩,.bool (Lib.cut s.data.toList sep.data.toList).2.2])∧ ∃n,w'=w.drewN n:=Any.strings_Cut lays145 s sep m w hs hm
def OZ:Go.Shelf.Ren:=⟨fun|219=>186|217=>91|225=>141|224=>140|267=>202|266=>113|314=>209|n=>n,fun|9=>9|3=>3|4=>4|5=>5|46=>203|146=>263|51=>262|n=>n,fun|1=>3|n=>n⟩
theorem laysM219:Go.Proofs.LaysM.n219 prog OZ:={
 mixed:=by kernel_rfl
 f217:=eu func91 (by kernel_rfl)
 f219:=eu func186 (by kernel_rfl)
 f224:=eu func140 (by kernel_rfl)
 f225:=eu func141 (by kernel_rfl)
 f266:=eu func113 (by kernel_rfl)
 f267:=eu func202 (by kernel_rfl)
 f314:=eu func209 (by kernel_rfl)
 t3:=underlying3
 a3:=isAgg3
 z3:=sizeOf3
 v3:=zeroValue3
 t4:=underlying4
 a4:=isAgg4
 z4:=sizeOf4
 v4:=zeroValue4
 t5:=underlying5
 a5:=isAgg5
 z5:=sizeOf5
 v5:=zeroValue5
 t9:=underlying9
 a9:=isAgg9
 z9:=sizeOf9
 v9:=zeroValue9
 t46:=underlying203
 a46:=isAgg203
 z46:=sizeOf203
 v46:=zeroValue203
 t51:=underlying262
 a51:=isAgg262
 z51:=sizeOf262
 v51:=zeroValue262
 t146:=underlying263
 a146:=isAgg263
 z146:=sizeOf263
 v146:=zeroValue263
 g1:=by kernel_rfl
 i3:=by kernel_rfl
 i4:=by kernel_rfl
 i5:=by kernel_rfl
 i9:=by kernel_rfl
 i46:=by kernel_rfl
 i51:=by kernel_rfl
 i146:=by kernel_rfl
 m1:=by kernel_rfl
 s1_3:=fun w h=>Go.Proofs.cell_of_shapedOpen_int (zero:= #[.int .i64 0]) (t:=3) h (of_decide_eq_true (by kernel_rfl)) (by kernel_rfl) rfl (by kernel_rfl) (by kernel_rfl) underlying3}
def O0:Go.Shelf.Ren:=⟨fun|17=>70|15=>93|20=>114|n=>n,fun|9=>9|23=>131|4=>4|3=>3|0=>0|21=>21|n=>n,fun|n=>n⟩
theorem laysGw17:Go.Proofs.LaysGw.n17 prog O0:=⟨by kernel_rfl,eu func93 (by kernel_rfl),eu func70 (by kernel_rfl),eu func114 (by kernel_rfl),underlying0,isAgg0,sizeOf0,zeroValue0,by kernel_rfl,underlying3,isAgg3,sizeOf3,zeroValue3,by kernel_rfl,underlying4,isAgg4,sizeOf4,zeroValue4,by kernel_rfl,underlying9,isAgg9,sizeOf9,zeroValue9,by kernel_rfl,underlying21,isAgg21,sizeOf21,zeroValue21,by kernel_rfl,underlying131,isAgg131,sizeOf131,zeroValue131,by kernel_rfl⟩
def Sr:Go.Shelf.Ren:=⟨fun|102=>42|209=>68|207=>92|n=>n,fun|9=>9|4=>4|3=>3|n=>n,fun|n=>n⟩
theorem lays102:Go.Proofs.Lays.n102 prog Sr:=⟨by kernel_rfl,eu func42 (by kernel_rfl),eu func92 (by kernel_rfl),eu func68 (by kernel_rfl),underlying3,isAgg3,sizeOf3,zeroValue3,underlying4,isAgg4,sizeOf4,zeroValue4,underlying9,isAgg9,sizeOf9,zeroValue9⟩
open Go.RowKit Go.Lib in
theorem strings_TrimSuffix (s p:ByteArray) (w:World) (hs:s.size≤9223372036854775807):
 Calls prog 42 #[.string s,.string p] w fun e w'=>e=.returned (.string ⟨(Lib.trimSuffix s.data.toList p.data.toList).toArray⟩)∧w'=w:=Any.strings_TrimSuffix lays102 s p w hs
def Ss:Go.Shelf.Ren:=⟨fun|146=>151|221=>175|268=>196|138=>197|143=>198|195=>207|197=>149|218=>208|219=>186|260=>173|217=>91|225=>141|224=>140|267=>202|266=>113|314=>209|n=>n,fun|9=>9|31=>68|3=>3|4=>4|0=>0|105=>214|21=>21|5=>5|46=>203|119=>251|139=>254|138=>253|146=>263|51=>262|n=>n,fun|1=>3|3=>5|4=>6|n=>n⟩
theorem lays146:Go.Proofs.Lays.n146 prog Ss:=⟨by kernel_rfl,eu func197 (by kernel_rfl),eu func198 (by kernel_rfl),eu func151 (by kernel_rfl),eu func207 (by kernel_rfl),eu func149 (by kernel_rfl),eu func91 (by kernel_rfl),eu func208 (by kernel_rfl),eu func186 (by kernel_rfl),eu func175 (by kernel_rfl),eu func140 (by kernel_rfl),eu func141 (by kernel_rfl),eu func173 (by kernel_rfl),eu func113 (by kernel_rfl),eu func202 (by kernel_rfl),eu func196 (by kernel_rfl),eu func209 (by kernel_rfl),underlying0,isAgg0,sizeOf0,zeroValue0,underlying3,isAgg3,sizeOf3,zeroValue3,underlying4,isAgg4,sizeOf4,zeroValue4,underlying5,isAgg5,sizeOf5,zeroValue5,underlying9,isAgg9,sizeOf9,zeroValue9,underlying21,isAgg21,sizeOf21,zeroValue21,underlying68,isAgg68,sizeOf68,zeroValue68,underlying203,isAgg203,sizeOf203,zeroValue203,underlying262,isAgg262,sizeOf262,zeroValue262,underlying214,isAgg214,sizeOf214,zeroValue214,underlying251,isAgg251,sizeOf251,underlying253,isAgg253,sizeOf253,zeroValue253,underlying254,isAgg254,sizeOf254,zeroValue254,underlying263,isAgg263,sizeOf263,zeroValue263,by kernel_rfl,by kernel_rfl,by kernel_rfl⟩
open Go.RowKit Go.Lib in
theorem strings_Split (s sep:ByteArray) (m:Int) (w:World) (hs:s.size<4294967281) (hm:w.cell? ⟨3,0,none⟩=some (.int .i64 m)) (h1:1≤sep.size):
 Calls prog 151 #[.string s,.string sep] w fun e w'=>
  e=.returned (.slice (some ⟨w.heap.size,0,none⟩) (Lib.countB s sep+1) (Lib.countB s sep+1))∧w'=w.alloc (.cells ((Lib.splitB sep 0 (Lib.countB s sep) s).map Value.string).toArray 9):=Any.strings_Split lays146 (by kernel_rfl) s sep m w hs hm h1
def Sv:Go.Shelf.Ren:=⟨fun|152=>103|137=>65|119=>139|224=>140|225=>141|217=>91|266=>113|n=>n,fun|9=>9|21=>21|3=>3|4=>4|5=>5|0=>0|46=>203|n=>n,fun|n=>n⟩
theorem Xc:Go.Proofs.Lays.n152 prog Sv:=⟨by kernel_rfl,eu func139 (by kernel_rfl),eu func65 (by kernel_rfl),eu func103 (by kernel_rfl),eu func91 (by kernel_rfl),eu func140 (by kernel_rfl),eu func141 (by kernel_rfl),eu func113 (by kernel_rfl),underlying0,isAgg0,sizeOf0,zeroValue0,underlying3,isAgg3,sizeOf3,zeroValue3,underlying4,isAgg4,sizeOf4,zeroValue4,underlying5,isAgg5,sizeOf5,zeroValue5,underlying9,isAgg9,sizeOf9,zeroValue9,underlying21,isAgg21,sizeOf21,zeroValue21,underlying203,isAgg203,sizeOf203,zeroValue203⟩
open Go.RowKit Go.Lib in
theorem strings_IndexRune_ascii (s:ByteArray) (r:Int) (w:World) (h0:0≤r) (h1:r<128):
 Calls prog 103 #[.string s,.int .i32 r] w fun e w'=>e=.returned (.int .i64 (Lib.indexByte s.data.toList r.toNat.toUInt8))∧w'=w:=Any.strings_IndexRune_ascii Xc s r w h0 h1
def Sw:Go.Shelf.Ren:=⟨fun|226=>142|n=>n,fun|3=>3|4=>4|n=>n,fun|n=>n⟩
theorem lays226:Go.Proofs.Lays.n226 prog Sw:=⟨by kernel_rfl,eu func142 (by kernel_rfl),underlying3,isAgg3,sizeOf3,zeroValue3,underlying4,isAgg4,sizeOf4,zeroValue4⟩
open Go.RowKit Go.Lib in
theorem strings_shouldUseASCIISet (n:Int) (w:World):
 Calls prog 142 #[.int .i64 n] w fun e w'=>e=.returned (.bool (decide (8<n)))∧w'=w:=Any.strings_shouldUseASCIISet lays226 n w
def Sy:Go.Shelf.Ren:=⟨fun|153=>104|152=>103|226=>142|227=>116|228=>143|137=>65|119=>139|224=>140|225=>141|217=>91|266=>113|n=>n,fun|9=>9|3=>3|4=>4|5=>5|21=>21|117=>182|116=>181|0=>0|46=>203|124=>185|n=>n,fun|n=>n⟩
theorem NQ:Go.Proofs.Lays.n153 prog Sy:=⟨by kernel_rfl,eu func139 (by kernel_rfl),eu func65 (by kernel_rfl),eu func103 (by kernel_rfl),eu func104 (by kernel_rfl),eu func91 (by kernel_rfl),eu func140 (by kernel_rfl),eu func141 (by kernel_rfl),eu func142 (by kernel_rfl),eu func116 (by kernel_rfl),eu func143 (by kernel_rfl),eu func113 (by kernel_rfl),underlying0,isAgg0,sizeOf0,zeroValue0,underlying3,isAgg3,sizeOf3,zeroValue3,underlying4,isAgg4,sizeOf4,zeroValue4,underlying5,isAgg5,sizeOf5,zeroValue5,underlying9,isAgg9,sizeOf9,zeroValue9,underlying21,isAgg21,sizeOf21,zeroValue21,underlying203,isAgg203,sizeOf203,zeroValue203,underlying181,isAgg181,sizeOf181,underlying182,isAgg182,sizeOf182,zeroValue182,underlying185,isAgg185,sizeOf185,zeroValue185⟩
open Go.RowKit Go.Lib in
theorem strings_IndexAny_long (hv116: ∀w,(zeroValue 181).run prog w=.ok (.agg (Array.replicate 256 (.bool false))) w) (s chars:ByteArray) (w:World) (h2:2≤chars.size) (h8:8<s.size) (hs:s.size<4294967281) (hcs:chars.size<4294967281) (hascii: ∀(j:Nat) b,chars.data.toList[j]? =some b→b.toNat<128):
 Calls prog 104 #[.string s,.string chars] w fun e w'=>e=.returned (.int .i64 (Lib.indexAny s.data.toList chars.data.toList))∧w'=((w.alloc (.cells (Lib.setCells chars.data.toList) 181)).alloc (.cells (Lib.setCells chars.data.toList) 181)):=Any.strings_IndexAny_long NQ hv116 (by kernel_rfl) s chars w h2 h8 hs hcs hascii
def Sz:Go.Shelf.Ren:=⟨fun|264=>200|n=>n,fun|53=>149|46=>203|n=>n,fun|n=>n⟩
theorem lays264:Go.Proofs.Lays.n264 prog Sz:=⟨by kernel_rfl,eu func200 (by kernel_rfl),underlying203,isAgg203,sizeOf203,zeroValue203,underlying149,isAgg149,sizeOf149,zeroValue149⟩
open Go.RowKit Go.Lib in
theorem bits_Mul64 (x y:Nat) (hx:x<18446744073709551616) (hy:y<18446744073709551616) (w:World):
 Calls prog 200 #[.int .u64 x,.int .u64 y] w fun e w'=>e=.returned (.tuple #[.int .u64 ((x*y/18446744073709551616:Nat):Int),.int .u64 ((x*y%18446744073709551616:Nat):Int)])∧w'=w:=Any.bits_Mul64 lays264 x y hx hy w
open Go.RowKit Go.Lib in
theorem strings_ContainsFunc_grows (g:Nat) (lb:Array Value) (eg: ∀args w,(callFunc g args).run prog w=.ok (.enter g args) w) (p:Nat→Bool) (s:ByteArray) (w:World) (hp:PredGrows prog g lb p w):
 Calls prog 70 #[.string s,.func (.func g) #[] lb] w fun e w'=>e=.returned (.bool (decide (0≤Lib.idxFunc p true s)))∧Below w.heap.size w w':=Any.strings_ContainsFunc_grows laysGw17 g lb eg p s w hp
open Go.RowKit Go.Lib in
theorem Ce (s cutset:ByteArray) (w:World) (hs:s.size≤9223372036854775807) (hcs:cutset.size<4294967281) (hascii: ∀(j:Nat) b,cutset.data.toList[j]? =some b→b.toNat<128):
 Calls prog 102 #[.string s,.string cutset] w fun e w'=>e=.returned (.string ⟨(Lib.trimS s.data.toList cutset.data.toList).toArray⟩)∧Below w.heap.size w w':=Any.strings_Trim_laid lays160 (by kernel_rfl) s cutset w hs hcs hascii
end Go.Proofs.Tryz
