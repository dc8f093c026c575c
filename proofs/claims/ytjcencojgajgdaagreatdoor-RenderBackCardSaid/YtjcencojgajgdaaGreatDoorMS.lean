/-
  DERIVED: THE SHELF's CONTRACTS AT THIS DUMP, IN PLAIN WORDS (tools/lay-plain.
-/
import Derived.Shelf.Strings.Builder1
import Derived.Shelf.Strings.Builder2
import Derived.Shelf.Strings.OnBuilder
import Derived.Shelf.Strings.Trim
import Derived.Shelf.Small.Utf8
import Derived.Shelf.Small.Strs
import Derived.Shelf.Small.Wraps
import Derived.Shelf.Strings.BuilderF
import Derived.Shelf.Strings.BuilderK
import Derived.Shelf.Strings.Builder2Cap
import Derived.Shelf.Strings.Search1
import Derived.Shelf.Strings.Search2
import Derived.Shelf.Strings.Search3
import Derived.Shelf.Strings.Cut
import Derived.Shelf.Strings.Count
import Derived.Shelf.LaysM
import Derived.Shelf.Strings.Shaped
import Derived.Shelf.GgClosure.StringsIndexFunc
import Derived.Ground.GgwProg
import Derived.Shelf.GgClosure.StringsIndexFuncTop
import Derived.Shelf.Strings.Prefix
import Derived.Shelf.Strings.Split
import Derived.Shelf.Strings.SplitShaped
import Derived.Shelf.Unicode.Decode
import Derived.Shelf.Strings.Runes
import Derived.Shelf.Strings.RuneCount
import Derived.Shelf.Strings.IndexAny
import Derived.Shelf.Strings.AsciiSet
import Derived.Shelf.Strings.IndexAnyAll
import Derived.Shelf.Strings.Explode
import Derived.Shelf.Bits.Mul64
import Derived.Shelf.Unicode.DecodeSlow
import Derived.Shelf.Unicode.DecodeAny
import Derived.Shelf.Unicode.DecodeLast
import Derived.Shelf.Strings.FuncGrows
import Derived.Shelf.Strings.BuilderCap
import Derived.Ground.Names2Prog
import Derived.Shelf.Slices.SearchI
import Derived.Ground.SlgnProg
import Derived.Shelf.SlicesG.SearchI
import Derived.Shelf.Strings.SlTrimAscii
import Derived.Test.YtjcencojgajgdaaGreatDoorProg
set_option linter.all false
namespace Go.Proofs.Tryz
open Go.Shelf
theorem eP {α : Type} {a b : α} {c : Option α} (h : c = some a) (e : a = b) : c = some b := h.trans (congrArg some e)
def Tv:Go.Shelf.Ren:=⟨fun|161=>114|231=>121|227=>123|233=>124|235=>126|228=>132|197=>156|151=>78|260=>180|152=>101|137=>63|119=>128|224=>129|225=>130|217=>87|266=>111|n=>n,fun|9=>9|4=>4|3=>3|5=>5|117=>186|116=>185|0=>0|124=>189|105=>219|21=>21|119=>256|46=>191|139=>259|138=>258|n=>n,fun|3=>5|4=>6|n=>n⟩
theorem lays161:Go.Proofs.Lays.n161 prog Tv:=⟨by kernel_rfl,eP func128 (by kernel_rfl),eP func63 (by kernel_rfl),eP func78 (by kernel_rfl),eP func101 (by kernel_rfl),eP func114 (by kernel_rfl),eP func156 (by kernel_rfl),eP func87 (by kernel_rfl),eP func129 (by kernel_rfl),eP func130 (by kernel_rfl),eP func123 (by kernel_rfl),eP func132 (by kernel_rfl),eP func121 (by kernel_rfl),eP func124 (by kernel_rfl),eP func126 (by kernel_rfl),eP func180 (by kernel_rfl),eP func111 (by kernel_rfl),underlying0,isAgg0,sizeOf0,zeroValue0,underlying3,isAgg3,sizeOf3,zeroValue3,underlying4,isAgg4,sizeOf4,zeroValue4,underlying5,isAgg5,sizeOf5,zeroValue5,underlying9,isAgg9,sizeOf9,zeroValue9,underlying21,isAgg21,sizeOf21,zeroValue21,underlying191,isAgg191,sizeOf191,zeroValue191,underlying219,isAgg219,sizeOf219,zeroValue219,underlying185,isAgg185,sizeOf185,underlying186,isAgg186,sizeOf186,zeroValue186,underlying256,isAgg256,sizeOf256,underlying189,isAgg189,sizeOf189,zeroValue189,underlying258,isAgg258,sizeOf258,zeroValue258,underlying259,isAgg259,sizeOf259,zeroValue259,by kernel_rfl,by kernel_rfl⟩
def Tw:Go.Shelf.Ren:=⟨fun|162=>201|232=>122|227=>123|234=>125|236=>127|228=>132|271=>157|151=>78|120=>181|197=>156|152=>101|260=>180|137=>63|119=>128|224=>129|225=>130|217=>87|266=>111|n=>n,fun|9=>9|4=>4|3=>3|5=>5|117=>186|116=>185|0=>0|124=>189|21=>21|105=>219|46=>191|119=>256|139=>259|138=>258|n=>n,fun|3=>5|4=>6|n=>n⟩
theorem lays162:Go.Proofs.Lays.n162 prog Tw:=⟨by kernel_rfl,eP func128 (by kernel_rfl),eP func181 (by kernel_rfl),eP func63 (by kernel_rfl),eP func78 (by kernel_rfl),eP func101 (by kernel_rfl),eP func201 (by kernel_rfl),eP func156 (by kernel_rfl),eP func87 (by kernel_rfl),eP func129 (by kernel_rfl),eP func130 (by kernel_rfl),eP func123 (by kernel_rfl),eP func132 (by kernel_rfl),eP func122 (by kernel_rfl),eP func125 (by kernel_rfl),eP func127 (by kernel_rfl),eP func180 (by kernel_rfl),eP func111 (by kernel_rfl),eP func157 (by kernel_rfl),underlying0,isAgg0,sizeOf0,zeroValue0,underlying3,isAgg3,sizeOf3,zeroValue3,underlying4,isAgg4,sizeOf4,zeroValue4,underlying5,isAgg5,sizeOf5,zeroValue5,underlying9,isAgg9,sizeOf9,zeroValue9,underlying21,isAgg21,sizeOf21,zeroValue21,underlying191,isAgg191,sizeOf191,zeroValue191,underlying219,isAgg219,sizeOf219,zeroValue219,underlying185,isAgg185,sizeOf185,underlying186,isAgg186,sizeOf186,zeroValue186,underlying256,isAgg256,sizeOf256,underlying189,isAgg189,sizeOf189,zeroValue189,underlying258,isAgg258,sizeOf258,zeroValue258,underlying259,isAgg259,sizeOf259,zeroValue259,by kernel_rfl,by kernel_rfl⟩
def Tx:Go.Shelf.Ren:=⟨fun|160=>100|232=>122|231=>121|227=>123|234=>125|233=>124|236=>127|235=>126|228=>132|271=>157|151=>78|197=>156|120=>181|152=>101|260=>180|137=>63|119=>128|224=>129|225=>130|217=>87|266=>111|n=>n,fun|9=>9|4=>4|3=>3|5=>5|117=>186|116=>185|0=>0|124=>189|21=>21|105=>219|46=>191|119=>256|139=>259|138=>258|n=>n,fun|3=>5|4=>6|n=>n⟩
theorem lays160:Go.Proofs.Lays.n160 prog Tx:=⟨by kernel_rfl,eP func128 (by kernel_rfl),eP func181 (by kernel_rfl),eP func63 (by kernel_rfl),eP func78 (by kernel_rfl),eP func101 (by kernel_rfl),eP func100 (by kernel_rfl),eP func156 (by kernel_rfl),eP func87 (by kernel_rfl),eP func129 (by kernel_rfl),eP func130 (by kernel_rfl),eP func123 (by kernel_rfl),eP func132 (by kernel_rfl),eP func121 (by kernel_rfl),eP func122 (by kernel_rfl),eP func124 (by kernel_rfl),eP func125 (by kernel_rfl),eP func126 (by kernel_rfl),eP func127 (by kernel_rfl),eP func180 (by kernel_rfl),eP func111 (by kernel_rfl),eP func157 (by kernel_rfl),underlying0,isAgg0,sizeOf0,zeroValue0,underlying3,isAgg3,sizeOf3,zeroValue3,underlying4,isAgg4,sizeOf4,zeroValue4,underlying5,isAgg5,sizeOf5,zeroValue5,underlying9,isAgg9,sizeOf9,zeroValue9,underlying21,isAgg21,sizeOf21,zeroValue21,underlying191,isAgg191,sizeOf191,zeroValue191,underlying219,isAgg219,sizeOf219,zeroValue219,underlying185,isAgg185,sizeOf185,underlying186,isAgg186,sizeOf186,zeroValue186,underlying256,isAgg256,sizeOf256,underlying189,isAgg189,sizeOf189,zeroValue189,underlying258,isAgg258,sizeOf258,zeroValue258,underlying259,isAgg259,sizeOf259,zeroValue259,by kernel_rfl,by kernel_rfl⟩
def Ty:Go.Shelf.Ren:=⟨fun|119=>128|n=>n,fun|21=>21|4=>4|n=>n,fun|n=>n⟩
theorem lays119:Go.Proofs.Lays.n119 prog Ty:=⟨by kernel_rfl,eP func128 (by kernel_rfl),underlying4,isAgg4,sizeOf4,zeroValue4,underlying21,isAgg21,sizeOf21,zeroValue21⟩
theorem utf8_ValidRune (r:Int) (w:World):
 Calls prog 128 #[.int .i32 r] w fun e w'=>e=.returned (.bool (Lib.validRune r))∧w'=w:=Any.utf8_ValidRune lays119 r w
def Tz:Go.Shelf.Ren:=⟨fun|137=>63|217=>87|266=>111|n=>n,fun|9=>9|5=>5|3=>3|n=>n,fun|n=>n⟩
theorem lays137:Go.Proofs.Lays.n137 prog Tz:=⟨by kernel_rfl,eP func63 (by kernel_rfl),eP func87 (by kernel_rfl),eP func111 (by kernel_rfl),underlying3,isAgg3,sizeOf3,zeroValue3,underlying5,isAgg5,sizeOf5,zeroValue5,underlying9,isAgg9,sizeOf9,zeroValue9⟩
open Go.RowKit in
theorem strings_IndexByte (s:ByteArray) (c:Int) (w:World):
 Calls prog 63 #[.string s,.int .u8 c] w fun e w'=>e=.returned (.int .i64 (Lib.indexByte s.data.toList c.toNat.toUInt8))∧w'=w:=Any.strings_IndexByte lays137 s c w
def TB:Go.Shelf.Ren:=⟨fun|103=>166|210=>191|206=>207|n=>n,fun|9=>9|4=>4|24=>156|3=>3|n=>n,fun|n=>n⟩
theorem lays103:Go.Proofs.Lays.n103 prog TB:=⟨by kernel_rfl,eP func166 (by kernel_rfl),eP func207 (by kernel_rfl),eP func191 (by kernel_rfl),underlying3,isAgg3,sizeOf3,zeroValue3,underlying4,isAgg4,sizeOf4,zeroValue4,underlying9,isAgg9,sizeOf9,zeroValue9,underlying156,isAgg156,sizeOf156,zeroValue156⟩
open Go.RowKit in
theorem strings_CutPrefix (s p:ByteArray) (w:World):
 Calls prog 166 #[.string s,.string p] w fun e w'=>e=.returned (.tuple #[.string ⟨(Lib.trimPrefix s.data.toList p.data.toList).toArray⟩,.bool (Lib.hasPrefix s.data.toList p.data.toList)])∧w'=w:=Any.strings_CutPrefix lays103 s p w
def TC:Go.Shelf.Ren:=⟨fun|145=>134|220=>158|219=>182|217=>87|225=>130|224=>129|267=>202|266=>111|314=>214|n=>n,fun|9=>9|4=>4|59=>194|3=>3|5=>5|46=>191|146=>268|51=>267|n=>n,fun|1=>3|n=>n⟩
theorem lays145:Go.Proofs.Lays.n145 prog TC:=⟨by kernel_rfl,eP func134 (by kernel_rfl),eP func87 (by kernel_rfl),eP func182 (by kernel_rfl),eP func158 (by kernel_rfl),eP func129 (by kernel_rfl),eP func130 (by kernel_rfl),eP func111 (by kernel_rfl),eP func202 (by kernel_rfl),eP func214 (by kernel_rfl),underlying3,isAgg3,sizeOf3,zeroValue3,underlying4,isAgg4,sizeOf4,zeroValue4,underlying5,isAgg5,sizeOf5,zeroValue5,underlying9,isAgg9,sizeOf9,zeroValue9,underlying191,isAgg191,sizeOf191,zeroValue191,underlying267,isAgg267,sizeOf267,zeroValue267,underlying194,isAgg194,sizeOf194,zeroValue194,underlying268,isAgg268,sizeOf268,zeroValue268,by kernel_rfl⟩
open Go.RowKit Go.Lib in
theorem strings_Cut (s sep:ByteArray) (m:Int) (w:World) (hs:s.size<4294967281) (hm:w.cell? ⟨3,0,none⟩=some (.int .i64 m)):
 Calls prog 134 #[.string s,.string sep] w fun e w'=>e=.returned (.tuple #[.string ⟨(Lib.cut s.data.toList sep.data.toList).1.toArray⟩,.string ⟨(Lib.cut s.data.toList sep.data.toList).2.1.toArray⟩,.bool (Lib.cut s.data.toList sep.data.toList).2.2])∧ ∃n,w'=w.drewN n:=Any.strings_Cut lays145 s sep m w hs hm
def P6:Go.Shelf.Ren:=⟨fun|219=>182|217=>87|225=>130|224=>129|267=>202|266=>111|314=>214|n=>n,fun|9=>9|3=>3|4=>4|5=>5|46=>191|146=>268|51=>267|n=>n,fun|1=>3|n=>n⟩
theorem laysM219:Go.Proofs.LaysM.n219 prog P6:={
 mixed:=by kernel_rfl
 f217:=eP func87 (by kernel_rfl)
 f219:=eP func182 (by kernel_rfl)
 f224:=eP func129 (by kernel_rfl)
 f225:=eP func130 (by kernel_rfl)
 f266:=eP func111 (by kernel_rfl)
 f267:=eP func202 (by kernel_rfl)
 f314:=eP func214 (by kernel_rfl)
 t3:=underlying3
 a3:=isAgg3
 z3:=sizeOf3
 v3:=zeroValue3
 t4:=underlying4
 a4:=isAgg4
 z4:=sizeOf4
 v4:=zeroValue4
 t5:=underlying5
 a5:=isAgg5
 z5:=sizeOf5
 v5:=zeroValue5
 t9:=underlying9
 a9:=isAgg9
 z9:=sizeOf9
 v9:=zeroValue9
 t46:=underlying191
 a46:=isAgg191
 z46:=sizeOf191
 v46:=zeroValue191
 t51:=underlying267
 a51:=isAgg267
 z51:=sizeOf267
 v51:=zeroValue267
 t146:=underlying268
 a146:=isAgg268
 z146:=sizeOf268
 v146:=zeroValue268
 g1:=by kernel_rfl
 i3:=by kernel_rfl
 i4:=by kernel_rfl
 i5:=by kernel_rfl
 i9:=by kernel_rfl
 i46:=by kernel_rfl
 i51:=by kernel_rfl
 i146:=by kernel_rfl
 m1:=by kernel_rfl
 s1_3:=fun w h=>Go.Proofs.cell_of_shapedOpen_int (zero:= #[.int .i64 0]) (t:=3) h (of_decide_eq_true (by kernel_rfl)) (by kernel_rfl) rfl (by kernel_rfl) (by kernel_rfl) underlying3}
def P7:Go.Shelf.Ren:=⟨fun|17=>91|15=>113|20=>138|n=>n,fun|9=>9|23=>150|4=>4|3=>3|0=>0|21=>21|n=>n,fun|n=>n⟩
theorem laysGw17:Go.Proofs.LaysGw.n17 prog P7:=⟨by kernel_rfl,eP func113 (by kernel_rfl),eP func91 (by kernel_rfl),eP func138 (by kernel_rfl),underlying0,isAgg0,sizeOf0,zeroValue0,by kernel_rfl,underlying3,isAgg3,sizeOf3,zeroValue3,by kernel_rfl,underlying4,isAgg4,sizeOf4,zeroValue4,by kernel_rfl,underlying9,isAgg9,sizeOf9,zeroValue9,by kernel_rfl,underlying21,isAgg21,sizeOf21,zeroValue21,by kernel_rfl,underlying150,isAgg150,sizeOf150,zeroValue150,by kernel_rfl⟩
def TD:Go.Shelf.Ren:=⟨fun|102=>66|209=>89|207=>112|n=>n,fun|9=>9|4=>4|3=>3|n=>n,fun|n=>n⟩
theorem lays102:Go.Proofs.Lays.n102 prog TD:=⟨by kernel_rfl,eP func66 (by kernel_rfl),eP func112 (by kernel_rfl),eP func89 (by kernel_rfl),underlying3,isAgg3,sizeOf3,zeroValue3,underlying4,isAgg4,sizeOf4,zeroValue4,underlying9,isAgg9,sizeOf9,zeroValue9⟩
open Go.RowKit Go.Lib in
theorem strings_TrimSuffix (s p:ByteArray) (w:World) (hs:s.size≤9223372036854775807):
 Calls prog 66 #[.string s,.string p] w fun e w'=>e=.returned (.string ⟨(Lib.trimSuffix s.data.toList p.data.toList).toArray⟩)∧w'=w:=Any.strings_TrimSuffix lays102 s p w hs
def TE:Go.Shelf.Ren:=⟨fun|146=>167|221=>192|268=>208|138=>209|143=>210|195=>216|197=>156|218=>217|219=>182|260=>180|217=>87|225=>130|224=>129|267=>202|266=>111|314=>214|n=>n,fun|9=>9|31=>68|3=>3|4=>4|0=>0|105=>219|21=>21|5=>5|46=>191|119=>256|139=>259|138=>258|146=>268|51=>267|n=>n,fun|1=>3|3=>5|4=>6|n=>n⟩
theorem lays146:Go.Proofs.Lays.n146 prog TE:=⟨by kernel_rfl,eP func209 (by kernel_rfl),eP func210 (by kernel_rfl),eP func167 (by kernel_rfl),eP func216 (by kernel_rfl),eP func156 (by kernel_rfl),eP func87 (by kernel_rfl),eP func217 (by kernel_rfl),eP func182 (by kernel_rfl),eP func192 (by kernel_rfl),eP func129 (by kernel_rfl),eP func130 (by kernel_rfl),eP func180 (by kernel_rfl),eP func111 (by kernel_rfl),eP func202 (by kernel_rfl),eP func208 (by kernel_rfl),eP func214 (by kernel_rfl),underlying0,isAgg0,sizeOf0,zeroValue0,underlying3,isAgg3,sizeOf3,zeroValue3,underlying4,isAgg4,sizeOf4,zeroValue4,underlying5,isAgg5,sizeOf5,zeroValue5,underlying9,isAgg9,sizeOf9,zeroValue9,underlying21,isAgg21,sizeOf21,zeroValue21,underlying68,isAgg68,sizeOf68,zeroValue68,underlying191,isAgg191,sizeOf191,zeroValue191,underlying267,isAgg267,sizeOf267,zeroValue267,underlying219,isAgg219,sizeOf219,zeroValue219,underlying256,isAgg256,sizeOf256,underlying258,isAgg258,sizeOf258,zeroValue258,underlying259,isAgg259,sizeOf259,zeroValue259,underlying268,isAgg268,sizeOf268,zeroValue268,by kernel_rfl,by kernel_rfl,by kernel_rfl⟩
open Go.RowKit Go.Lib in
theorem strings_Split (s sep:ByteArray) (m:Int) (w:World) (hs:s.size<4294967281) (hm:w.cell? ⟨3,0,none⟩=some (.int .i64 m)) (h1:1≤sep.size):
 Calls prog 167 #[.string s,.string sep] w fun e w'=>
  e=.returned (.slice (some ⟨w.heap.size,0,none⟩) (Lib.countB s sep+1) (Lib.countB s sep+1))∧w'=w.alloc (.cells ((Lib.splitB sep 0 (Lib.countB s sep) s).map Value.string).toArray 9):=Any.strings_Split lays146 (by kernel_rfl) s sep m w hs hm h1
def TF:Go.Shelf.Ren:=⟨fun|152=>101|137=>63|119=>128|224=>129|225=>130|217=>87|266=>111|n=>n,fun|9=>9|21=>21|3=>3|4=>4|5=>5|0=>0|46=>191|n=>n,fun|n=>n⟩
theorem Yc:Go.Proofs.Lays.n152 prog TF:=⟨by kernel_rfl,eP func128 (by kernel_rfl),eP func63 (by kernel_rfl),eP func101 (by kernel_rfl),eP func87 (by kernel_rfl),eP func129 (by kernel_rfl),eP func130 (by kernel_rfl),eP func111 (by kernel_rfl),underlying0,isAgg0,sizeOf0,zeroValue0,underlying3,isAgg3,sizeOf3,zeroValue3,underlying4,isAgg4,sizeOf4,zeroValue4,underlying5,isAgg5,sizeOf5,zeroValue5,underlying9,isAgg9,sizeOf9,zeroValue9,underlying21,isAgg21,sizeOf21,zeroValue21,underlying191,isAgg191,sizeOf191,zeroValue191⟩
open Go.RowKit Go.Lib in
theorem strings_IndexRune_ascii (s:ByteArray) (r:Int) (w:World) (h0:0≤r) (h1:r<128):
 Calls prog 101 #[.string s,.int .i32 r] w fun e w'=>e=.returned (.int .i64 (Lib.indexByte s.data.toList r.toNat.toUInt8))∧w'=w:=Any.strings_IndexRune_ascii Yc s r w h0 h1
def TG:Go.Shelf.Ren:=⟨fun|226=>131|n=>n,fun|3=>3|4=>4|n=>n,fun|n=>n⟩
theorem lays226:Go.Proofs.Lays.n226 prog TG:=⟨by kernel_rfl,eP func131 (by kernel_rfl),underlying3,isAgg3,sizeOf3,zeroValue3,underlying4,isAgg4,sizeOf4,zeroValue4⟩
open Go.RowKit Go.Lib in
theorem strings_shouldUseASCIISet (n:Int) (w:World):
 Calls prog 131 #[.int .i64 n] w fun e w'=>e=.returned (.bool (decide (8<n)))∧w'=w:=Any.strings_shouldUseASCIISet lays226 n w
def TH:Go.Shelf.Ren:=⟨fun|153=>102|152=>101|226=>131|227=>123|228=>132|137=>63|119=>128|224=>129|225=>130|217=>87|266=>111|n=>n,fun|9=>9|3=>3|4=>4|5=>5|21=>21|117=>186|116=>185|0=>0|46=>191|124=>189|n=>n,fun|n=>n⟩
theorem OM:Go.Proofs.Lays.n153 prog TH:=⟨by kernel_rfl,eP func128 (by kernel_rfl),eP func63 (by kernel_rfl),eP func101 (by kernel_rfl),eP func102 (by kernel_rfl),eP func87 (by kernel_rfl),eP func129 (by kernel_rfl),eP func130 (by kernel_rfl),eP func131 (by kernel_rfl),eP func123 (by kernel_rfl),eP func132 (by kernel_rfl),eP func111 (by kernel_rfl),underlying0,isAgg0,sizeOf0,zeroValue0,underlying3,isAgg3,sizeOf3,zeroValue3,underlying4,isAgg4,sizeOf4,zeroValue4,underlying5,isAgg5,sizeOf5,zeroValue5,underlying9,isAgg9,sizeOf9,zeroValue9,underlying21,isAgg21,sizeOf21,zeroValue21,underlying191,isAgg191,sizeOf191,zeroValue191,underlying185,isAgg185,sizeOf185,underlying186,isAgg186,sizeOf186,zeroValue186,underlying189,isAgg189,sizeOf189,zeroValue189⟩
open Go.RowKit Go.Lib in
theorem strings_IndexAny_long (hv116: ∀w,(zeroValue 185).run prog w=.ok (.agg (Array.replicate 256 (.bool false))) w) (s chars:ByteArray) (w:World) (h2:2≤chars.size) (h8:8<s.size) (hs:s.size<4294967281) (hcs:chars.size<4294967281) (hascii: ∀(j:Nat) b,chars.data.toList[j]? =some b→b.toNat<128):
 Calls prog 102 #[.string s,.string chars] w fun e w'=>e=.returned (.int .i64 (Lib.indexAny s.data.toList chars.data.toList))∧w'=((w.alloc (.cells (Lib.setCells chars.data.toList) 185)).alloc (.cells (Lib.setCells chars.data.toList) 185)):=Any.strings_IndexAny_long OM hv116 (by kernel_rfl) s chars w h2 h8 hs hcs hascii
def TI:Go.Shelf.Ren:=⟨fun|264=>212|n=>n,fun|53=>138|46=>191|n=>n,fun|n=>n⟩
theorem lays264:Go.Proofs.Lays.n264 prog TI:=⟨by kernel_rfl,eP func212 (by kernel_rfl),underlying191,isAgg191,sizeOf191,zeroValue191,underlying138,isAgg138,sizeOf138,zeroValue138⟩
open Go.RowKit Go.Lib in
theorem bits_Mul64 (x y:Nat) (hx:x<18446744073709551616) (hy:y<18446744073709551616) (w:World):
 Calls prog 212 #[.int .u64 x,.int .u64 y] w fun e w'=>e=.returned (.tuple #[.int .u64 ((x*y/18446744073709551616:Nat):Int),.int .u64 ((x*y%18446744073709551616:Nat):Int)])∧w'=w:=Any.bits_Mul64 lays264 x y hx hy w
open Go.RowKit Go.Lib in
theorem strings_ContainsFunc_grows (g:Nat) (lb:Array Value) (eg: ∀args w,(callFunc g args).run prog w=.ok (.enter g args) w) (p:Nat→Bool) (s:ByteArray) (w:World) (hp:PredGrows prog g lb p w):
 Calls prog 91 #[.string s,.func (.func g) #[] lb] w fun e w'=>e=.returned (.bool (decide (0≤Lib.idxFunc p true s)))∧Below w.heap.size w w':=Any.strings_ContainsFunc_grows laysGw17 g lb eg p s w hp
open Go.RowKit Go.Lib in
theorem Ce (s cutset:ByteArray) (w:World) (hs:s.size≤9223372036854775807) (hcs:cutset.size<4294967281) (hascii: ∀(j:Nat) b,cutset.data.toList[j]? =some b→b.toNat<128):
 Calls prog 100 #[.string s,.string cutset] w fun e w'=>e=.returned (.string ⟨(Lib.trimS s.data.toList cutset.data.toList).toArray⟩)∧Below w.heap.size w w':=Any.strings_Trim_laid lays160 (by kernel_rfl) s cutset w hs hcs hascii
end Go.Proofs.Tryz
