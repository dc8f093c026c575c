/-
  DERIVED: THE SHELF's CONTRACTS AT THIS DUMP, IN PLAIN WORDS (tools/lay-plain.
-/
import Derived.Shelf.Strings.Builder1
import Derived.Shelf.Strings.Trim
import Derived.Shelf.Small.Utf8
import Derived.Shelf.Small.Strs
import Derived.Shelf.Small.Wraps
import Derived.Shelf.Strings.BuilderF
import Derived.Shelf.Strings.BuilderK
import Derived.Shelf.Strings.Search1
import Derived.Shelf.GgClosure.StringsIndexFunc
import Derived.Ground.GgwProg
import Derived.Shelf.GgClosure.StringsIndexFuncTop
import Derived.Shelf.GgClosure.StringsRunes
import Derived.Shelf.Strings.Prefix
import Derived.Shelf.Unicode.Decode
import Derived.Shelf.Strings.Runes
import Derived.Shelf.Strings.AsciiSet
import Derived.Shelf.Bits.Mul64
import Derived.Shelf.Unicode.DecodeSlow
import Derived.Shelf.Unicode.DecodeAny
import Derived.Shelf.Unicode.DecodeLast
import Derived.Shelf.Strings.FuncGrows
import Derived.Shelf.Strings.BuilderCap
import Derived.Ground.SlgnProg
import Derived.Shelf.SlicesG.SearchI
import Derived.Shelf.Strings.SlTrimAscii
import Derived.Test.YtcmockbdkppglaaGreatDoorProg
set_option linter.all false
namespace Go.Proofs.Tryz
open Go.Shelf
theorem j4 {α : Type} {a b : α} {c : Option α} (h : c = some a) (e : a = b) : c = some b := h.trans (congrArg some e)
def JP:Go.Shelf.Ren:=⟨fun|161=>91|231=>103|227=>104|233=>105|235=>106|228=>115|197=>116|151=>92|260=>123|152=>107|137=>68|119=>117|224=>118|225=>119|217=>88|266=>101|n=>n,fun|9=>9|4=>4|3=>3|5=>5|117=>143|116=>142|0=>0|124=>146|105=>151|21=>21|119=>156|46=>96|139=>159|138=>158|n=>n,fun|3=>3|4=>4|n=>n⟩
theorem VW:Go.Proofs.Lays.n161 prog JP:=⟨by kernel_rfl,j4 func117 (by kernel_rfl),j4 func68 (by kernel_rfl),j4 func92 (by kernel_rfl),j4 func107 (by kernel_rfl),j4 func91 (by kernel_rfl),j4 func116 (by kernel_rfl),j4 func88 (by kernel_rfl),j4 func118 (by kernel_rfl),j4 func119 (by kernel_rfl),j4 func104 (by kernel_rfl),j4 func115 (by kernel_rfl),j4 func103 (by kernel_rfl),j4 func105 (by kernel_rfl),j4 func106 (by kernel_rfl),j4 func123 (by kernel_rfl),j4 func101 (by kernel_rfl),underlying0,isAgg0,sizeOf0,zeroValue0,underlying3,isAgg3,sizeOf3,zeroValue3,underlying4,isAgg4,sizeOf4,zeroValue4,underlying5,isAgg5,sizeOf5,zeroValue5,underlying9,isAgg9,sizeOf9,zeroValue9,underlying21,isAgg21,sizeOf21,zeroValue21,underlying96,isAgg96,sizeOf96,zeroValue96,underlying151,isAgg151,sizeOf151,zeroValue151,underlying142,isAgg142,sizeOf142,underlying143,isAgg143,sizeOf143,zeroValue143,underlying156,isAgg156,sizeOf156,underlying146,isAgg146,sizeOf146,zeroValue146,underlying158,isAgg158,sizeOf158,zeroValue158,underlying159,isAgg159,sizeOf159,zeroValue159,by kernel_rfl,by kernel_rfl⟩
def JQ:Go.Shelf.Ren:=⟨fun|160=>95|232=>108|231=>103|227=>104|234=>109|233=>105|236=>110|235=>106|228=>115|271=>120|151=>92|197=>116|120=>124|152=>107|260=>123|137=>68|119=>117|224=>118|225=>119|217=>88|266=>101|n=>n,fun|9=>9|4=>4|3=>3|5=>5|117=>143|116=>142|0=>0|124=>146|21=>21|105=>151|46=>96|119=>156|139=>159|138=>158|n=>n,fun|3=>3|4=>4|n=>n⟩
theorem VX:Go.Proofs.Lays.n160 prog JQ:=⟨by kernel_rfl,j4 func117 (by kernel_rfl),j4 func124 (by kernel_rfl),j4 func68 (by kernel_rfl),j4 func92 (by kernel_rfl),j4 func107 (by kernel_rfl),j4 func95 (by kernel_rfl),j4 func116 (by kernel_rfl),j4 func88 (by kernel_rfl),j4 func118 (by kernel_rfl),j4 func119 (by kernel_rfl),j4 func104 (by kernel_rfl),j4 func115 (by kernel_rfl),j4 func103 (by kernel_rfl),j4 func108 (by kernel_rfl),j4 func105 (by kernel_rfl),j4 func109 (by kernel_rfl),j4 func106 (by kernel_rfl),j4 func110 (by kernel_rfl),j4 func123 (by kernel_rfl),j4 func101 (by kernel_rfl),j4 func120 (by kernel_rfl),underlying0,isAgg0,sizeOf0,zeroValue0,underlying3,isAgg3,sizeOf3,zeroValue3,underlying4,isAgg4,sizeOf4,zeroValue4,underlying5,isAgg5,sizeOf5,zeroValue5,underlying9,isAgg9,sizeOf9,zeroValue9,underlying21,isAgg21,sizeOf21,zeroValue21,underlying96,isAgg96,sizeOf96,zeroValue96,underlying151,isAgg151,sizeOf151,zeroValue151,underlying142,isAgg142,sizeOf142,underlying143,isAgg143,sizeOf143,zeroValue143,underlying156,isAgg156,sizeOf156,underlying146,isAgg146,sizeOf146,zeroValue146,underlying158,isAgg158,sizeOf158,zeroValue158,underlying159,isAgg159,sizeOf159,zeroValue159,by kernel_rfl,by kernel_rfl⟩
def JR:Go.Shelf.Ren:=⟨fun|119=>117|n=>n,fun|21=>21|4=>4|n=>n,fun|n=>n⟩
theorem VY:Go.Proofs.Lays.n119 prog JR:=⟨by kernel_rfl,j4 func117 (by kernel_rfl),underlying4,isAgg4,sizeOf4,zeroValue4,underlying21,isAgg21,sizeOf21,zeroValue21⟩
theorem utf8_ValidRune (r:Int) (w:World):
 Calls prog 117 #[.int .i32 r] w fun e w'=>e=.returned (.bool (Lib.validRune r))∧w'=w:=Any.utf8_ValidRune VY r w
def JS:Go.Shelf.Ren:=⟨fun|137=>68|217=>88|266=>101|n=>n,fun|9=>9|5=>5|3=>3|n=>n,fun|n=>n⟩
theorem VZ:Go.Proofs.Lays.n137 prog JS:=⟨by kernel_rfl,j4 func68 (by kernel_rfl),j4 func88 (by kernel_rfl),j4 func101 (by kernel_rfl),underlying3,isAgg3,sizeOf3,zeroValue3,underlying5,isAgg5,sizeOf5,zeroValue5,underlying9,isAgg9,sizeOf9,zeroValue9⟩
open Go.RowKit in
theorem strings_IndexByte (s:ByteArray) (c:Int) (w:World):
 Calls prog 68 #[.string s,.int .u8 c] w fun e w'=>e=.returned (.int .i64 (Lib.indexByte s.data.toList c.toNat.toUInt8))∧w'=w:=Any.strings_IndexByte VZ s c w
def JU:Go.Shelf.Ren:=⟨fun|103=>96|210=>111|206=>121|n=>n,fun|9=>9|4=>4|24=>115|3=>3|n=>n,fun|n=>n⟩
theorem V2:Go.Proofs.Lays.n103 prog JU:=⟨by kernel_rfl,j4 func96 (by kernel_rfl),j4 func121 (by kernel_rfl),j4 func111 (by kernel_rfl),underlying3,isAgg3,sizeOf3,zeroValue3,underlying4,isAgg4,sizeOf4,zeroValue4,underlying9,isAgg9,sizeOf9,zeroValue9,underlying115,isAgg115,sizeOf115,zeroValue115⟩
open Go.RowKit in
theorem strings_CutPrefix (s p:ByteArray) (w:World):
 Calls prog 96 #[.string s,.string p] w fun e w'=>e=.returned (.tuple #[.string ⟨(Lib.trimPrefix s.data.toList p.data.toList).toArray⟩,.bool (Lib.hasPrefix s.data.toList p.data.toList)])∧w'=w:=Any.strings_CutPrefix V2 s p w
def G4:Go.Shelf.Ren:=⟨fun|17=>71|15=>90|20=>102|n=>n,fun|9=>9|23=>109|4=>4|3=>3|0=>0|21=>21|n=>n,fun|n=>n⟩
theorem Tj:Go.Proofs.LaysGw.n17 prog G4:=⟨by kernel_rfl,j4 func90 (by kernel_rfl),j4 func71 (by kernel_rfl),j4 func102 (by kernel_rfl),underlying0,isAgg0,sizeOf0,zeroValue0,by kernel_rfl,underlying3,isAgg3,sizeOf3,zeroValue3,by kernel_rfl,underlying4,isAgg4,sizeOf4,zeroValue4,by kernel_rfl,underlying9,isAgg9,sizeOf9,zeroValue9,by kernel_rfl,underlying21,isAgg21,sizeOf21,zeroValue21,by kernel_rfl,underlying109,isAgg109,sizeOf109,zeroValue109,by kernel_rfl⟩
def JV:Go.Shelf.Ren:=⟨fun|102=>46|209=>69|207=>89|n=>n,fun|9=>9|4=>4|3=>3|n=>n,fun|n=>n⟩
theorem V3:Go.Proofs.Lays.n102 prog JV:=⟨by kernel_rfl,j4 func46 (by kernel_rfl),j4 func89 (by kernel_rfl),j4 func69 (by kernel_rfl),underlying3,isAgg3,sizeOf3,zeroValue3,underlying4,isAgg4,sizeOf4,zeroValue4,underlying9,isAgg9,sizeOf9,zeroValue9⟩
open Go.RowKit Go.Lib in
theorem strings_TrimSuffix (s p:ByteArray) (w:World) (hs:s.size≤9223372036854775807):
 Calls prog 46 #[.string s,.string p] w fun e w'=>e=.returned (.string ⟨(Lib.trimSuffix s.data.toList p.data.toList).toArray⟩)∧w'=w:=Any.strings_TrimSuffix V3 s p w hs
def JW:Go.Shelf.Ren:=⟨fun|152=>107|137=>68|119=>117|224=>118|225=>119|217=>88|266=>101|n=>n,fun|9=>9|21=>21|3=>3|4=>4|5=>5|0=>0|46=>96|n=>n,fun|n=>n⟩
theorem NB:Go.Proofs.Lays.n152 prog JW:=⟨by kernel_rfl,j4 func117 (by kernel_rfl),j4 func68 (by kernel_rfl),j4 func107 (by kernel_rfl),j4 func88 (by kernel_rfl),j4 func118 (by kernel_rfl),j4 func119 (by kernel_rfl),j4 func101 (by kernel_rfl),underlying0,isAgg0,sizeOf0,zeroValue0,underlying3,isAgg3,sizeOf3,zeroValue3,underlying4,isAgg4,sizeOf4,zeroValue4,underlying5,isAgg5,sizeOf5,zeroValue5,underlying9,isAgg9,sizeOf9,zeroValue9,underlying21,isAgg21,sizeOf21,zeroValue21,underlying96,isAgg96,sizeOf96,zeroValue96⟩
open Go.RowKit Go.Lib in
theorem strings_IndexRune_ascii (s:ByteArray) (r:Int) (w:World) (h0:0≤r) (h1:r<128):
 Calls prog 107 #[.string s,.int .i32 r] w fun e w'=>e=.returned (.int .i64 (Lib.indexByte s.data.toList r.toNat.toUInt8))∧w'=w:=Any.strings_IndexRune_ascii NB s r w h0 h1
def JX:Go.Shelf.Ren:=⟨fun|264=>122|n=>n,fun|53=>125|46=>96|n=>n,fun|n=>n⟩
theorem V4:Go.Proofs.Lays.n264 prog JX:=⟨by kernel_rfl,j4 func122 (by kernel_rfl),underlying96,isAgg96,sizeOf96,zeroValue96,underlying125,isAgg125,sizeOf125,zeroValue125⟩
open Go.RowKit Go.Lib in
theorem bits_Mul64 (x y:Nat) (hx:x<18446744073709551616) (hy:y<18446744073709551616) (w:World):
 Calls prog 122 #[.int .u64 x,.int .u64 y] w fun e w'=>e=.returned (.tuple #[.int .u64 ((x*y/18446744073709551616:Nat):Int),.int .u64 ((x*y%18446744073709551616:Nat):Int)])∧w'=w:=Any.bits_Mul64 V4 x y hx hy w
open Go.RowKit Go.Lib in
theorem strings_ContainsFunc_grows (g:Nat) (lb:Array Value) (eg: ∀args w,(callFunc g args).run prog w=.ok (.enter g args) w) (p:Nat→Bool) (s:ByteArray) (w:World) (hp:PredGrows prog g lb p w):
 Calls prog 71 #[.string s,.func (.func g) #[] lb] w fun e w'=>e=.returned (.bool (decide (0≤Lib.idxFunc p true s)))∧Below w.heap.size w w':=Any.strings_ContainsFunc_grows Tj g lb eg p s w hp
open Go.RowKit Go.Lib in
theorem wV (s cutset:ByteArray) (w:World) (hs:s.size≤9223372036854775807) (hcs:cutset.size<4294967281) (hascii: ∀(j:Nat) b,cutset.data.toList[j]? =some b→b.toNat<128):
 Calls prog 95 #[.string s,.string cutset] w fun e w'=>e=.returned (.string ⟨(Lib.trimS s.data.toList cutset.data.toList).toArray⟩)∧Below w.heap.size w w':=Any.strings_Trim_laid VX (by kernel_rfl) s cutset w hs hcs hascii
end Go.Proofs.Tryz
