/-
  DERIVED: THE SHELF's CONTRACTS AT THIS DUMP, IN PLAIN WORDS (tools/lay-plain.
-/
import Derived.Shelf.Strings.Builder1
import Derived.Shelf.Strings.Trim
import Derived.Shelf.Small.Utf8
import Derived.Shelf.Small.Strs
import Derived.Shelf.Small.Wraps
import Derived.Shelf.Strings.BuilderF
import Derived.Shelf.Strings.BuilderK
import Derived.Shelf.Strings.Search1
import Derived.Shelf.GgClosure.StringsIndexFunc
import Derived.Ground.GgwProg
import Derived.Shelf.GgClosure.StringsIndexFuncTop
import Derived.Shelf.GgClosure.StringsRunes
import Derived.Shelf.Strings.Prefix
import Derived.Shelf.Unicode.Decode
import Derived.Shelf.Strings.Runes
import Derived.Shelf.Strings.AsciiSet
import Derived.Shelf.Bits.Mul64
import Derived.Shelf.Unicode.DecodeSlow
import Derived.Shelf.Unicode.DecodeAny
import Derived.Shelf.Unicode.DecodeLast
import Derived.Shelf.Strings.FuncGrows
import Derived.Shelf.Strings.BuilderCap
import Derived.Ground.SlgnProg
import Derived.Shelf.SlicesG.SearchI
import Derived.Shelf.Strings.SlTrimAscii
import Derived.Test.YtcmockbdkppglaaDoorProg
set_option linter.all false
namespace Go.Proofs.Tryd
open Go.Shelf
theorem jK {α : Type} {a b : α} {c : Option α} (h : c = some a) (e : a = b) : c = some b := h.trans (congrArg some e)
def H7:Go.Shelf.Ren:=⟨fun|161=>59|231=>70|227=>71|233=>72|235=>73|228=>82|197=>83|151=>60|260=>90|152=>74|137=>44|119=>84|224=>85|225=>86|217=>56|266=>68|n=>n,fun|9=>9|4=>4|3=>3|5=>5|117=>131|116=>130|0=>0|124=>134|105=>140|21=>21|119=>145|46=>91|139=>148|138=>147|n=>n,fun|3=>3|4=>4|n=>n⟩
theorem TA:Go.Proofs.Lays.n161 prog H7:=⟨by kernel_rfl,jK func84 (by kernel_rfl),jK func44 (by kernel_rfl),jK func60 (by kernel_rfl),jK func74 (by kernel_rfl),jK func59 (by kernel_rfl),jK func83 (by kernel_rfl),jK func56 (by kernel_rfl),jK func85 (by kernel_rfl),jK func86 (by kernel_rfl),jK func71 (by kernel_rfl),jK func82 (by kernel_rfl),jK func70 (by kernel_rfl),jK func72 (by kernel_rfl),jK func73 (by kernel_rfl),jK func90 (by kernel_rfl),jK func68 (by kernel_rfl),underlying0,isAgg0,sizeOf0,zeroValue0,underlying3,isAgg3,sizeOf3,zeroValue3,underlying4,isAgg4,sizeOf4,zeroValue4,underlying5,isAgg5,sizeOf5,zeroValue5,underlying9,isAgg9,sizeOf9,zeroValue9,underlying21,isAgg21,sizeOf21,zeroValue21,underlying91,isAgg91,sizeOf91,zeroValue91,underlying140,isAgg140,sizeOf140,zeroValue140,underlying130,isAgg130,sizeOf130,underlying131,isAgg131,sizeOf131,zeroValue131,underlying145,isAgg145,sizeOf145,underlying134,isAgg134,sizeOf134,zeroValue134,underlying147,isAgg147,sizeOf147,zeroValue147,underlying148,isAgg148,sizeOf148,zeroValue148,by kernel_rfl,by kernel_rfl⟩
def H8:Go.Shelf.Ren:=⟨fun|160=>63|232=>75|231=>70|227=>71|234=>76|233=>72|236=>77|235=>73|228=>82|271=>87|151=>60|197=>83|120=>91|152=>74|260=>90|137=>44|119=>84|224=>85|225=>86|217=>56|266=>68|n=>n,fun|9=>9|4=>4|3=>3|5=>5|117=>131|116=>130|0=>0|124=>134|21=>21|105=>140|46=>91|119=>145|139=>148|138=>147|n=>n,fun|3=>3|4=>4|n=>n⟩
theorem TB:Go.Proofs.Lays.n160 prog H8:=⟨by kernel_rfl,jK func84 (by kernel_rfl),jK func91 (by kernel_rfl),jK func44 (by kernel_rfl),jK func60 (by kernel_rfl),jK func74 (by kernel_rfl),jK func63 (by kernel_rfl),jK func83 (by kernel_rfl),jK func56 (by kernel_rfl),jK func85 (by kernel_rfl),jK func86 (by kernel_rfl),jK func71 (by kernel_rfl),jK func82 (by kernel_rfl),jK func70 (by kernel_rfl),jK func75 (by kernel_rfl),jK func72 (by kernel_rfl),jK func76 (by kernel_rfl),jK func73 (by kernel_rfl),jK func77 (by kernel_rfl),jK func90 (by kernel_rfl),jK func68 (by kernel_rfl),jK func87 (by kernel_rfl),underlying0,isAgg0,sizeOf0,zeroValue0,underlying3,isAgg3,sizeOf3,zeroValue3,underlying4,isAgg4,sizeOf4,zeroValue4,underlying5,isAgg5,sizeOf5,zeroValue5,underlying9,isAgg9,sizeOf9,zeroValue9,underlying21,isAgg21,sizeOf21,zeroValue21,underlying91,isAgg91,sizeOf91,zeroValue91,underlying140,isAgg140,sizeOf140,zeroValue140,underlying130,isAgg130,sizeOf130,underlying131,isAgg131,sizeOf131,zeroValue131,underlying145,isAgg145,sizeOf145,underlying134,isAgg134,sizeOf134,zeroValue134,underlying147,isAgg147,sizeOf147,zeroValue147,underlying148,isAgg148,sizeOf148,zeroValue148,by kernel_rfl,by kernel_rfl⟩
def H9:Go.Shelf.Ren:=⟨fun|119=>84|n=>n,fun|21=>21|4=>4|n=>n,fun|n=>n⟩
theorem TC:Go.Proofs.Lays.n119 prog H9:=⟨by kernel_rfl,jK func84 (by kernel_rfl),underlying4,isAgg4,sizeOf4,zeroValue4,underlying21,isAgg21,sizeOf21,zeroValue21⟩
theorem utf8_ValidRune (r:Int) (w:World):
 Calls prog 84 #[.int .i32 r] w fun e w'=>e=.returned (.bool (Lib.validRune r))∧w'=w:=Any.utf8_ValidRune TC r w
def Ia:Go.Shelf.Ren:=⟨fun|137=>44|217=>56|266=>68|n=>n,fun|9=>9|5=>5|3=>3|n=>n,fun|n=>n⟩
theorem TD:Go.Proofs.Lays.n137 prog Ia:=⟨by kernel_rfl,jK func44 (by kernel_rfl),jK func56 (by kernel_rfl),jK func68 (by kernel_rfl),underlying3,isAgg3,sizeOf3,zeroValue3,underlying5,isAgg5,sizeOf5,zeroValue5,underlying9,isAgg9,sizeOf9,zeroValue9⟩
open Go.RowKit in
theorem strings_IndexByte (s:ByteArray) (c:Int) (w:World):
 Calls prog 44 #[.string s,.int .u8 c] w fun e w'=>e=.returned (.int .i64 (Lib.indexByte s.data.toList c.toNat.toUInt8))∧w'=w:=Any.strings_IndexByte TD s c w
def Ib:Go.Shelf.Ren:=⟨fun|103=>64|210=>78|206=>88|n=>n,fun|9=>9|4=>4|24=>108|3=>3|n=>n,fun|n=>n⟩
theorem TE:Go.Proofs.Lays.n103 prog Ib:=⟨by kernel_rfl,jK func64 (by kernel_rfl),jK func88 (by kernel_rfl),jK func78 (by kernel_rfl),underlying3,isAgg3,sizeOf3,zeroValue3,underlying4,isAgg4,sizeOf4,zeroValue4,underlying9,isAgg9,sizeOf9,zeroValue9,underlying108,isAgg108,sizeOf108,zeroValue108⟩
open Go.RowKit in
theorem strings_CutPrefix (s p:ByteArray) (w:World):
 Calls prog 64 #[.string s,.string p] w fun e w'=>e=.returned (.tuple #[.string ⟨(Lib.trimPrefix s.data.toList p.data.toList).toArray⟩,.bool (Lib.hasPrefix s.data.toList p.data.toList)])∧w'=w:=Any.strings_CutPrefix TE s p w
def EY:Go.Shelf.Ren:=⟨fun|17=>47|15=>58|20=>69|n=>n,fun|9=>9|23=>102|4=>4|3=>3|0=>0|21=>21|n=>n,fun|n=>n⟩
theorem Qz:Go.Proofs.LaysGw.n17 prog EY:=⟨by kernel_rfl,jK func58 (by kernel_rfl),jK func47 (by kernel_rfl),jK func69 (by kernel_rfl),underlying0,isAgg0,sizeOf0,zeroValue0,by kernel_rfl,underlying3,isAgg3,sizeOf3,zeroValue3,by kernel_rfl,underlying4,isAgg4,sizeOf4,zeroValue4,by kernel_rfl,underlying9,isAgg9,sizeOf9,zeroValue9,by kernel_rfl,underlying21,isAgg21,sizeOf21,zeroValue21,by kernel_rfl,underlying102,isAgg102,sizeOf102,zeroValue102,by kernel_rfl⟩
def Ic:Go.Shelf.Ren:=⟨fun|102=>31|209=>45|207=>57|n=>n,fun|9=>9|4=>4|3=>3|n=>n,fun|n=>n⟩
theorem TF:Go.Proofs.Lays.n102 prog Ic:=⟨by kernel_rfl,jK func31 (by kernel_rfl),jK func57 (by kernel_rfl),jK func45 (by kernel_rfl),underlying3,isAgg3,sizeOf3,zeroValue3,underlying4,isAgg4,sizeOf4,zeroValue4,underlying9,isAgg9,sizeOf9,zeroValue9⟩
open Go.RowKit Go.Lib in
theorem strings_TrimSuffix (s p:ByteArray) (w:World) (hs:s.size≤9223372036854775807):
 Calls prog 31 #[.string s,.string p] w fun e w'=>e=.returned (.string ⟨(Lib.trimSuffix s.data.toList p.data.toList).toArray⟩)∧w'=w:=Any.strings_TrimSuffix TF s p w hs
def Ie:Go.Shelf.Ren:=⟨fun|152=>74|137=>44|119=>84|224=>85|225=>86|217=>56|266=>68|n=>n,fun|9=>9|21=>21|3=>3|4=>4|5=>5|0=>0|46=>91|n=>n,fun|n=>n⟩
theorem Ld:Go.Proofs.Lays.n152 prog Ie:=⟨by kernel_rfl,jK func84 (by kernel_rfl),jK func44 (by kernel_rfl),jK func74 (by kernel_rfl),jK func56 (by kernel_rfl),jK func85 (by kernel_rfl),jK func86 (by kernel_rfl),jK func68 (by kernel_rfl),underlying0,isAgg0,sizeOf0,zeroValue0,underlying3,isAgg3,sizeOf3,zeroValue3,underlying4,isAgg4,sizeOf4,zeroValue4,underlying5,isAgg5,sizeOf5,zeroValue5,underlying9,isAgg9,sizeOf9,zeroValue9,underlying21,isAgg21,sizeOf21,zeroValue21,underlying91,isAgg91,sizeOf91,zeroValue91⟩
open Go.RowKit Go.Lib in
theorem strings_IndexRune_ascii (s:ByteArray) (r:Int) (w:World) (h0:0≤r) (h1:r<128):
 Calls prog 74 #[.string s,.int .i32 r] w fun e w'=>e=.returned (.int .i64 (Lib.indexByte s.data.toList r.toNat.toUInt8))∧w'=w:=Any.strings_IndexRune_ascii Ld s r w h0 h1
def Ig:Go.Shelf.Ren:=⟨fun|264=>89|n=>n,fun|53=>116|46=>91|n=>n,fun|n=>n⟩
theorem TG:Go.Proofs.Lays.n264 prog Ig:=⟨by kernel_rfl,jK func89 (by kernel_rfl),underlying91,isAgg91,sizeOf91,zeroValue91,underlying116,isAgg116,sizeOf116,zeroValue116⟩
open Go.RowKit Go.Lib in
theorem bits_Mul64 (x y:Nat) (hx:x<18446744073709551616) (hy:y<18446744073709551616) (w:World):
 Calls prog 89 #[.int .u64 x,.int .u64 y] w fun e w'=>e=.returned (.tuple #[.int .u64 ((x*y/18446744073709551616:Nat):Int),.int .u64 ((x*y%18446744073709551616:Nat):Int)])∧w'=w:=Any.bits_Mul64 TG x y hx hy w
open Go.RowKit Go.Lib in
theorem strings_ContainsFunc_grows (g:Nat) (lb:Array Value) (eg: ∀args w,(callFunc g args).run prog w=.ok (.enter g args) w) (p:Nat→Bool) (s:ByteArray) (w:World) (hp:PredGrows prog g lb p w):
 Calls prog 47 #[.string s,.func (.func g) #[] lb] w fun e w'=>e=.returned (.bool (decide (0≤Lib.idxFunc p true s)))∧Below w.heap.size w w':=Any.strings_ContainsFunc_grows Qz g lb eg p s w hp
open Go.RowKit Go.Lib in
theorem uR (s cutset:ByteArray) (w:World) (hs:s.size≤9223372036854775807) (hcs:cutset.size<4294967281) (hascii: ∀(j:Nat) b,cutset.data.toList[j]? =some b→b.toNat<128):
 Calls prog 63 #[.string s,.string cutset] w fun e w'=>e=.returned (.string ⟨(Lib.trimS s.data.toList cutset.data.toList).toArray⟩)∧Below w.heap.size w w':=Any.strings_Trim_laid TB (by kernel_rfl) s cutset w hs hcs hascii
end Go.Proofs.Tryd
