/- Contracts of library functions at this program, laid by the kit's own tool out of what the kit has proved once for any program. -/
import Derived.Shelf.Small.Strs
import Derived.Shelf.Strings.Search1
import Derived.Shelf.Strings.Search2
import Derived.Shelf.Strings.Search3
import Derived.Shelf.LaysM
import Derived.Shelf.Strings.Shaped
import Derived.Shelf.Strings.Prefix
import Derived.Shelf.Strings.Fields
import Derived.Shelf.Strings.SplitShaped
import Derived.Shelf.Unicode.Latin
import Derived.Shelf.Unicode.Is16White
import Derived.Shelf.Unicode.IsSpaceAny
import Derived.Shelf.Unicode.Is16Any
import Derived.Shelf.Unicode.Is32Any
import Derived.Shelf.Unicode.ExclAny
import Derived.Test.YtalnampdiegmoaaDoorProg
namespace Go.Proofs
open _root_.Go.Proofs.Tryd
open Go.Shelf
def Tryd.lays137_ren:Go.Shelf.Ren:=⟨fun | 137=>25 | 217=>58 | 266=>73 | n=>n,fun | 9=>9 | 5=>5 | 3=>3 | n=>n,fun | n=>n⟩
theorem Tryd.lays137:Go.Proofs.Lays.n137 prog Tryd.lays137_ren:={
 mixed:=by kernel_rfl
 f137:=func25.trans (congrArg some (by kernel_rfl))
 f217:=func58.trans (congrArg some (by kernel_rfl))
 f266:=func73.trans (congrArg some (by kernel_rfl))
 t3:=underlying3
 a3:=isAgg3
 z3:=Tryd.sizeOf3
 v3:=Tryd.zeroValue3
 t5:=underlying5
 a5:=isAgg5
 z5:=Tryd.sizeOf5
 v5:=Tryd.zeroValue5
 t9:=underlying9
 a9:=isAgg9
 z9:=Tryd.sizeOf9
 v9:=Tryd.zeroValue9 }
def Tryd.lays143_ren:Go.Shelf.Ren:=⟨fun | 143=>48 | 219=>67 | 217=>58 | 225=>79 | 224=>80 | 267=>81 | 266=>73 | 314=>88 | n=>n,fun | 9=>9 | 3=>3 | 4=>4 | 5=>5 | 46=>89 | 146=>100 | 51=>94 | n=>n,fun | 1=>1 | n=>n⟩
theorem Tryd.lays143:Go.Proofs.Lays.n143 prog Tryd.lays143_ren:={
 mixed:=by kernel_rfl
 f143:=func48.trans (congrArg some (by kernel_rfl))
 f217:=func58.trans (congrArg some (by kernel_rfl))
 f219:=func67.trans (congrArg some (by kernel_rfl))
 f224:=func80.trans (congrArg some (by kernel_rfl))
 f225:=func79.trans (congrArg some (by kernel_rfl))
 f266:=func73.trans (congrArg some (by kernel_rfl))
 f267:=func81.trans (congrArg some (by kernel_rfl))
 f314:=func88.trans (congrArg some (by kernel_rfl))
 t3:=underlying3
 a3:=isAgg3
 z3:=Tryd.sizeOf3
 v3:=Tryd.zeroValue3
 t4:=underlying4
 a4:=isAgg4
 z4:=Tryd.sizeOf4
 v4:=Tryd.zeroValue4
 t5:=underlying5
 a5:=isAgg5
 z5:=Tryd.sizeOf5
 v5:=Tryd.zeroValue5
 t9:=underlying9
 a9:=isAgg9
 z9:=Tryd.sizeOf9
 v9:=Tryd.zeroValue9
 t46:=underlying89
 a46:=isAgg89
 z46:=Tryd.sizeOf89
 v46:=Tryd.zeroValue89
 t51:=underlying94
 a51:=isAgg94
 z51:=Tryd.sizeOf94
 v51:=Tryd.zeroValue94
 t146:=underlying100
 a146:=isAgg100
 z146:=Tryd.sizeOf100
 v146:=Tryd.zeroValue100
 g1:=by kernel_rfl }
def Tryd.lays144_ren:Go.Shelf.Ren:=⟨fun | 144=>47 | 143=>48 | 219=>67 | 217=>58 | 225=>79 | 224=>80 | 267=>81 | 266=>73 | 314=>88 | n=>n,fun | 9=>9 | 4=>4 | 3=>3 | 5=>5 | 46=>89 | 146=>100 | 51=>94 | n=>n,fun | 1=>1 | n=>n⟩
theorem Tryd.lays144:Go.Proofs.Lays.n144 prog Tryd.lays144_ren:={
 mixed:=by kernel_rfl
 f143:=func48.trans (congrArg some (by kernel_rfl))
 f144:=func47.trans (congrArg some (by kernel_rfl))
 f217:=func58.trans (congrArg some (by kernel_rfl))
 f219:=func67.trans (congrArg some (by kernel_rfl))
 f224:=func80.trans (congrArg some (by kernel_rfl))
 f225:=func79.trans (congrArg some (by kernel_rfl))
 f266:=func73.trans (congrArg some (by kernel_rfl))
 f267:=func81.trans (congrArg some (by kernel_rfl))
 f314:=func88.trans (congrArg some (by kernel_rfl))
 t3:=underlying3
 a3:=isAgg3
 z3:=Tryd.sizeOf3
 v3:=Tryd.zeroValue3
 t4:=underlying4
 a4:=isAgg4
 z4:=Tryd.sizeOf4
 v4:=Tryd.zeroValue4
 t5:=underlying5
 a5:=isAgg5
 z5:=Tryd.sizeOf5
 v5:=Tryd.zeroValue5
 t9:=underlying9
 a9:=isAgg9
 z9:=Tryd.sizeOf9
 v9:=Tryd.zeroValue9
 t46:=underlying89
 a46:=isAgg89
 z46:=Tryd.sizeOf89
 v46:=Tryd.zeroValue89
 t51:=underlying94
 a51:=isAgg94
 z51:=Tryd.sizeOf94
 v51:=Tryd.zeroValue94
 t146:=underlying100
 a146:=isAgg100
 z146:=Tryd.sizeOf100
 v146:=Tryd.zeroValue100
 g1:=by kernel_rfl }
def Tryd.lays157_ren:Go.Shelf.Ren:=⟨fun | 157=>62 | 229=>75 | 199=>76 | 261=>84 | 311=>91 | 312=>92 | n=>n,fun | 9=>9 | 31=>71 | 3=>3 | 5=>5 | 4=>4 | 119=>85 | 0=>0 | 40=>87 | 152=>91 | 21=>21 | 154=>93 | 51=>94 | 141=>96 | 196=>105 | 193=>102 | 198=>108 | 49=>106 | 194=>103 | 201=>111 | 226=>114 | 46=>89 | 227=>115 | n=>n,fun | 0=>0 | 6=>2 | n=>n⟩
theorem Tryd.lays157:Go.Proofs.Lays.n157 prog Tryd.lays157_ren:={
 mixed:=by kernel_rfl
 f157:=func62.trans (congrArg some (by kernel_rfl))
 f199:=func76.trans (congrArg some (by kernel_rfl))
 f229:=func75.trans (congrArg some (by kernel_rfl))
 f261:=func84.trans (congrArg some (by kernel_rfl))
 f311:=func91.trans (congrArg some (by kernel_rfl))
 f312:=func92.trans (congrArg some (by kernel_rfl))
 t0:=underlying0
 a0:=isAgg0
 z0:=Tryd.sizeOf0
 v0:=Tryd.zeroValue0
 t3:=underlying3
 a3:=isAgg3
 z3:=Tryd.sizeOf3
 v3:=Tryd.zeroValue3
 t4:=underlying4
 a4:=isAgg4
 z4:=Tryd.sizeOf4
 v4:=Tryd.zeroValue4
 t5:=underlying5
 a5:=isAgg5
 z5:=Tryd.sizeOf5
 v5:=Tryd.zeroValue5
 t9:=underlying9
 a9:=isAgg9
 z9:=Tryd.sizeOf9
 v9:=Tryd.zeroValue9
 t21:=underlying21
 a21:=isAgg21
 z21:=Tryd.sizeOf21
 v21:=Tryd.zeroValue21
 t31:=underlying71
 a31:=isAgg71
 z31:=Tryd.sizeOf71
 v31:=Tryd.zeroValue71
 t40:=underlying87
 a40:=isAgg87
 z40:=Tryd.sizeOf87
 v40:=Tryd.zeroValue87
 t46:=underlying89
 a46:=isAgg89
 z46:=Tryd.sizeOf89
 v46:=Tryd.zeroValue89
 t49:=underlying106
 a49:=isAgg106
 z49:=Tryd.sizeOf106
 v49:=Tryd.zeroValue106
 t51:=underlying94
 a51:=isAgg94
 z51:=Tryd.sizeOf94
 v51:=Tryd.zeroValue94
 t119:=underlying85
 a119:=isAgg85
 z119:=Tryd.sizeOf85
 t141:=underlying96
 a141:=isAgg96
 z141:=Tryd.sizeOf96
 v141:=Tryd.zeroValue96
 t152:=underlying91
 a152:=isAgg91
 z152:=Tryd.sizeOf91
 v152:=Tryd.zeroValue91
 t154:=underlying93
 a154:=isAgg93
 z154:=Tryd.sizeOf93
 v154:=Tryd.zeroValue93
 t193:=underlying102
 a193:=isAgg102
 z193:=Tryd.sizeOf102
 v193:=Tryd.zeroValue102
 t194:=underlying103
 a194:=isAgg103
 z194:=Tryd.sizeOf103
 v194:=Tryd.zeroValue103
 t196:=underlying105
 a196:=isAgg105
 z196:=Tryd.sizeOf105
 v196:=Tryd.zeroValue105
 t198:=underlying108
 a198:=isAgg108
 z198:=Tryd.sizeOf108
 v198:=Tryd.zeroValue108
 t201:=underlying111
 a201:=isAgg111
 z201:=Tryd.sizeOf111
 v201:=Tryd.zeroValue111
 t226:=underlying114
 a226:=isAgg114
 z226:=Tryd.sizeOf114
 v226:=Tryd.zeroValue114
 t227:=underlying115
 a227:=isAgg115
 z227:=Tryd.sizeOf115
 v227:=Tryd.zeroValue115
 g0:=by kernel_rfl
 g6:=by kernel_rfl }
open Go.RowKit in
theorem Tryd.strings_IndexByte (s:ByteArray) (c:Int) (w:World) :
  Calls prog 25 #[.string s,.int .u8 c] w fun e w'=>e=.returned (.int .i64 (Lib.indexByte s.data.toList c.toNat.toUInt8))∧w'=w:=Any.strings_IndexByte Tryd.lays137 s c w
open Go.RowKit Go.Lib in
theorem Tryd.strings_Index (s sub:ByteArray) (m:Int) (w:World) (hs:s.size<4294967281) (hm:w.cell? ⟨1,0,none⟩=some (.int .i64 m)) :
  Calls prog 48 #[.string s,.string sub] w fun e w'=>e=.returned (.int .i64 (Lib.index s.data.toList sub.data.toList))∧w'=w:=Any.strings_Index Tryd.lays143 s sub m w hs hm
open Go.RowKit Go.Lib in
theorem Tryd.strings_Contains (s sub:ByteArray) (m:Int) (w:World) (hs:s.size<4294967281) (hm:w.cell? ⟨1,0,none⟩=some (.int .i64 m)) :
  Calls prog 47 #[.string s,.string sub] w fun e w'=>e=.returned (.bool (Lib.contains s.data.toList sub.data.toList))∧w'=w:=Any.strings_Contains Tryd.lays144 s sub m w hs hm
open Go.RowKit Go.Lib in
theorem Tryd.strings_Fields (s : ByteArray) (w : World) (hs : s.size < 4294967281) (hascii : ∀ (j : Nat) b, s.data.toList[j]? = some b → b.toNat < 128) (htab : Lib.TabIs prog w "strings.asciiSpace" .u8 Lib.asciiSpaceTab) :
  Calls prog 62 #[.string s] w fun e w' =>
   e=.returned (.slice (some ⟨w.heap.size,0,none⟩) (Lib.fields s.data.toList).length (Lib.fields s.data.toList).length)∧w'=w.alloc (.cells ((Lib.fields s.data.toList).map fun l=>Value.string ⟨l.toArray⟩).toArray 9):=Any.strings_Fields Tryd.lays157 (by kernel_rfl) (by kernel_rfl) s w hs hascii htab
end Go.Proofs
