/- Contracts of library functions at this program, laid by the kit's own tool out of what the kit has proved once for any program. -/
import Derived.Shelf.Strings.Builder1
import Derived.Shelf.Strings.Builder2
import Derived.Shelf.Strings.OnBuilder
import Derived.Shelf.Strings.Trim
import Derived.Shelf.Small.Utf8
import Derived.Shelf.Small.Strs
import Derived.Shelf.Small.Wraps
import Derived.Shelf.Strconv.Itoa0
import Derived.Shelf.Strconv.Itoa1
import Derived.Shelf.LaysM
import Derived.Shelf.Strconv.Itoa2
import Derived.Shelf.Strconv.Itoa3
import Derived.Shelf.Strings.Search1
import Derived.Shelf.Strings.Search2
import Derived.Shelf.Strings.Search3
import Derived.Shelf.Strings.Shaped
import Derived.Shelf.Strings.Prefix
import Derived.Shelf.Strings.Runes
import Derived.Shelf.Strings.AsciiSet
import Derived.Shelf.Unicode.DecodeSlow
import Derived.Shelf.Unicode.DecodeAny
import Derived.Test.YtogcmkphibegbaaGreatDoorProg
namespace Go.Proofs
open Go.Shelf
def Tryz.lays156_ren : Go.Shelf.Ren := ⟨fun | 156 => 23 | 165 => 42 | 166 => 43 | 169 => 44 | 240 => 68 | 241 => 69 | 276 => 90 | 277 => 91 | n => n, fun | 31 => 57 | 9 => 9 | 3 => 3 | 4 => 4 | 0 => 0 | 20 => 20 | 72 => 80 | 76 => 84 | 70 => 77 | 37 => 78 | 75 => 83 | 127 => 106 | 164 => 117 | 5 => 5 | 80 => 86 | n => n, fun | n => n⟩
theorem Tryz.lays156 : Go.Proofs.Lays.n156 Tryz.prog Tryz.lays156_ren := {
 mixed := by kernel_rfl
 f156 := Tryz.func23.trans (congrArg some (by kernel_rfl))
 f165 := Tryz.func42.trans (congrArg some (by kernel_rfl))
 f166 := Tryz.func43.trans (congrArg some (by kernel_rfl))
 f169 := Tryz.func44.trans (congrArg some (by kernel_rfl))
 f240 := Tryz.func68.trans (congrArg some (by kernel_rfl))
 f241 := Tryz.func69.trans (congrArg some (by kernel_rfl))
 f276 := Tryz.func90.trans (congrArg some (by kernel_rfl))
 f277 := Tryz.func91.trans (congrArg some (by kernel_rfl))
 t0 := Tryz.underlying0
 a0 := Tryz.isAgg0
 z0 := Tryz.sizeOf0
 v0 := Tryz.zeroValue0
 t3 := Tryz.underlying3
 a3 := Tryz.isAgg3
 z3 := Tryz.sizeOf3
 v3 := Tryz.zeroValue3
 t4 := Tryz.underlying4
 a4 := Tryz.isAgg4
 z4 := Tryz.sizeOf4
 v4 := Tryz.zeroValue4
 t9 := Tryz.underlying9
 a9 := Tryz.isAgg9
 z9 := Tryz.sizeOf9
 v9 := Tryz.zeroValue9
 t20 := Tryz.underlying20
 a20 := Tryz.isAgg20
 z20 := Tryz.sizeOf20
 v20 := Tryz.zeroValue20
 t31 := Tryz.underlying57
 a31 := Tryz.isAgg57
 z31 := Tryz.sizeOf57
 v31 := Tryz.zeroValue57
 t37 := Tryz.underlying78
 a37 := Tryz.isAgg78
 z37 := Tryz.sizeOf78
 v37 := Tryz.zeroValue78
 t70 := Tryz.underlying77
 a70 := Tryz.isAgg77
 z70 := Tryz.sizeOf77
 v70 := Tryz.zeroValue77
 t72 := Tryz.underlying80
 a72 := Tryz.isAgg80
 z72 := Tryz.sizeOf80
 v72 := Tryz.zeroValue80
 t75 := Tryz.underlying83
 a75 := Tryz.isAgg83
 z75 := Tryz.sizeOf83
 v75 := Tryz.zeroValue83
 t76 := Tryz.underlying84
 a76 := Tryz.isAgg84
 z76 := Tryz.sizeOf84
 v76 := Tryz.zeroValue84
 t127 := Tryz.underlying106
 a127 := Tryz.isAgg106
 z127 := Tryz.sizeOf106
 v127 := Tryz.zeroValue106
 t164 := Tryz.underlying117
 a164 := Tryz.isAgg117
 z164 := Tryz.sizeOf117
 v164 := Tryz.zeroValue117 }
def Tryz.lays162_ren : Go.Shelf.Ren := ⟨fun | 162 => 41 | 232 => 64 | 227 => 65 | 234 => 66 | 236 => 67 | 228 => 87 | 271 => 88 | 151 => 89 | 120 => 101 | 197 => 92 | 152 => 102 | 260 => 103 | 137 => 111 | 119 => 112 | 224 => 95 | 225 => 94 | 217 => 93 | 266 => 104 | n => n, fun | 9 => 9 | 4 => 4 | 3 => 3 | 5 => 5 | 117 => 102 | 116 => 101 | 0 => 0 | 124 => 105 | 21 => 21 | 105 => 114 | 46 => 121 | 119 => 138 | 139 => 141 | 138 => 140 | n => n, fun | 3 => 3 | 4 => 4 | n => n⟩
theorem Tryz.lays162 : Go.Proofs.Lays.n162 Tryz.prog Tryz.lays162_ren := {
 mixed := by kernel_rfl
 f119 := Tryz.func112.trans (congrArg some (by kernel_rfl))
 f120 := Tryz.func101.trans (congrArg some (by kernel_rfl))
 f137 := Tryz.func111.trans (congrArg some (by kernel_rfl))
 f151 := Tryz.func89.trans (congrArg some (by kernel_rfl))
 f152 := Tryz.func102.trans (congrArg some (by kernel_rfl))
 f162 := Tryz.func41.trans (congrArg some (by kernel_rfl))
 f197 := Tryz.func92.trans (congrArg some (by kernel_rfl))
 f217 := Tryz.func93.trans (congrArg some (by kernel_rfl))
 f224 := Tryz.func95.trans (congrArg some (by kernel_rfl))
 f225 := Tryz.func94.trans (congrArg some (by kernel_rfl))
 f227 := Tryz.func65.trans (congrArg some (by kernel_rfl))
 f228 := Tryz.func87.trans (congrArg some (by kernel_rfl))
 f232 := Tryz.func64.trans (congrArg some (by kernel_rfl))
 f234 := Tryz.func66.trans (congrArg some (by kernel_rfl))
 f236 := Tryz.func67.trans (congrArg some (by kernel_rfl))
 f260 := Tryz.func103.trans (congrArg some (by kernel_rfl))
 f266 := Tryz.func104.trans (congrArg some (by kernel_rfl))
 f271 := Tryz.func88.trans (congrArg some (by kernel_rfl))
 t0 := Tryz.underlying0
 a0 := Tryz.isAgg0
 z0 := Tryz.sizeOf0
 v0 := Tryz.zeroValue0
 t3 := Tryz.underlying3
 a3 := Tryz.isAgg3
 z3 := Tryz.sizeOf3
 v3 := Tryz.zeroValue3
 t4 := Tryz.underlying4
 a4 := Tryz.isAgg4
 z4 := Tryz.sizeOf4
 v4 := Tryz.zeroValue4
 t5 := Tryz.underlying5
 a5 := Tryz.isAgg5
 z5 := Tryz.sizeOf5
 v5 := Tryz.zeroValue5
 t9 := Tryz.underlying9
 a9 := Tryz.isAgg9
 z9 := Tryz.sizeOf9
 v9 := Tryz.zeroValue9
 t21 := Tryz.underlying21
 a21 := Tryz.isAgg21
 z21 := Tryz.sizeOf21
 v21 := Tryz.zeroValue21
 t46 := Tryz.underlying121
 a46 := Tryz.isAgg121
 z46 := Tryz.sizeOf121
 v46 := Tryz.zeroValue121
 t105 := Tryz.underlying114
 a105 := Tryz.isAgg114
 z105 := Tryz.sizeOf114
 v105 := Tryz.zeroValue114
 t116 := Tryz.underlying101
 a116 := Tryz.isAgg101
 z116 := Tryz.sizeOf101
 t117 := Tryz.underlying102
 a117 := Tryz.isAgg102
 z117 := Tryz.sizeOf102
 v117 := Tryz.zeroValue102
 t119 := Tryz.underlying138
 a119 := Tryz.isAgg138
 z119 := Tryz.sizeOf138
 t124 := Tryz.underlying105
 a124 := Tryz.isAgg105
 z124 := Tryz.sizeOf105
 v124 := Tryz.zeroValue105
 t138 := Tryz.underlying140
 a138 := Tryz.isAgg140
 z138 := Tryz.sizeOf140
 v138 := Tryz.zeroValue140
 t139 := Tryz.underlying141
 a139 := Tryz.isAgg141
 z139 := Tryz.sizeOf141
 v139 := Tryz.zeroValue141
 g3 := by kernel_rfl
 g4 := by kernel_rfl }
def Tryz.laysM171_ren : Go.Shelf.Ren := ⟨fun | 171 => 40 | 243 => 63 | 246 => 86 | 283 => 97 | 284 => 98 | 285 => 99 | 286 => 100 | 129 => 107 | 317 => 106 | 318 => 108 | 319 => 109 | 320 => 110 | 337 => 113 | 338 => 114 | n => n, fun | 3 => 3 | 9 => 9 | 2 => 2 | 4 => 4 | 171 => 122 | 0 => 0 | 53 => 123 | 37 => 78 | 5 => 5 | 173 => 126 | 212 => 133 | 51 => 129 | 20 => 20 | 213 => 134 | 46 => 121 | 232 => 143 | 233 => 144 | n => n, fun | 17 => 2 | 18 => 5 | 19 => 6 | n => n⟩
theorem Tryz.laysM171 : Go.Proofs.LaysM.n171 Tryz.prog Tryz.laysM171_ren := {
 mixed := by kernel_rfl
 f129 := Tryz.func107.trans (congrArg some (by kernel_rfl))
 f171 := Tryz.func40.trans (congrArg some (by kernel_rfl))
 f243 := Tryz.func63.trans (congrArg some (by kernel_rfl))
 f246 := Tryz.func86.trans (congrArg some (by kernel_rfl))
 f283 := Tryz.func97.trans (congrArg some (by kernel_rfl))
 f284 := Tryz.func98.trans (congrArg some (by kernel_rfl))
 f285 := Tryz.func99.trans (congrArg some (by kernel_rfl))
 f286 := Tryz.func100.trans (congrArg some (by kernel_rfl))
 f317 := Tryz.func106.trans (congrArg some (by kernel_rfl))
 f318 := Tryz.func108.trans (congrArg some (by kernel_rfl))
 f319 := Tryz.func109.trans (congrArg some (by kernel_rfl))
 f320 := Tryz.func110.trans (congrArg some (by kernel_rfl))
 f337 := Tryz.func113.trans (congrArg some (by kernel_rfl))
 f338 := Tryz.func114.trans (congrArg some (by kernel_rfl))
 t0 := Tryz.underlying0
 a0 := Tryz.isAgg0
 z0 := Tryz.sizeOf0
 v0 := Tryz.zeroValue0
 t2 := Tryz.underlying2
 a2 := Tryz.isAgg2
 z2 := Tryz.sizeOf2
 v2 := Tryz.zeroValue2
 t3 := Tryz.underlying3
 a3 := Tryz.isAgg3
 z3 := Tryz.sizeOf3
 v3 := Tryz.zeroValue3
 t4 := Tryz.underlying4
 a4 := Tryz.isAgg4
 z4 := Tryz.sizeOf4
 v4 := Tryz.zeroValue4
 t5 := Tryz.underlying5
 a5 := Tryz.isAgg5
 z5 := Tryz.sizeOf5
 v5 := Tryz.zeroValue5
 t9 := Tryz.underlying9
 a9 := Tryz.isAgg9
 z9 := Tryz.sizeOf9
 v9 := Tryz.zeroValue9
 t20 := Tryz.underlying20
 a20 := Tryz.isAgg20
 z20 := Tryz.sizeOf20
 v20 := Tryz.zeroValue20
 t37 := Tryz.underlying78
 a37 := Tryz.isAgg78
 z37 := Tryz.sizeOf78
 v37 := Tryz.zeroValue78
 t46 := Tryz.underlying121
 a46 := Tryz.isAgg121
 z46 := Tryz.sizeOf121
 v46 := Tryz.zeroValue121
 t51 := Tryz.underlying129
 a51 := Tryz.isAgg129
 z51 := Tryz.sizeOf129
 v51 := Tryz.zeroValue129
 t53 := Tryz.underlying123
 a53 := Tryz.isAgg123
 z53 := Tryz.sizeOf123
 v53 := Tryz.zeroValue123
 t171 := Tryz.underlying122
 a171 := Tryz.isAgg122
 z171 := Tryz.sizeOf122
 v171 := Tryz.zeroValue122
 t173 := Tryz.underlying126
 a173 := Tryz.isAgg126
 z173 := Tryz.sizeOf126
 v173 := Tryz.zeroValue126
 t212 := Tryz.underlying133
 a212 := Tryz.isAgg133
 z212 := Tryz.sizeOf133
 v212 := Tryz.zeroValue133
 t213 := Tryz.underlying134
 a213 := Tryz.isAgg134
 z213 := Tryz.sizeOf134
 t232 := Tryz.underlying143
 a232 := Tryz.isAgg143
 z232 := Tryz.sizeOf143
 v232 := Tryz.zeroValue143
 t233 := Tryz.underlying144
 a233 := Tryz.isAgg144
 z233 := Tryz.sizeOf144
 v233 := Tryz.zeroValue144
 g17 := by kernel_rfl
 g18 := by kernel_rfl
 g19 := by kernel_rfl
 i0 := by kernel_rfl
 i2 := by kernel_rfl
 i3 := by kernel_rfl
 i4 := by kernel_rfl
 i5 := by kernel_rfl
 i9 := by kernel_rfl
 i20 := by kernel_rfl
 i37 := by kernel_rfl
 i46 := by kernel_rfl
 i51 := by kernel_rfl
 i53 := by kernel_rfl
 i171 := by kernel_rfl
 i173 := by kernel_rfl
 i212 := by kernel_rfl
 i232 := by kernel_rfl
 i233 := by kernel_rfl
 m17 := by kernel_rfl
 m18 := by kernel_rfl
 m19 := by kernel_rfl }
def Tryz.lays143_ren : Go.Shelf.Ren := ⟨fun | 143 => 52 | 219 => 77 | 217 => 93 | 225 => 94 | 224 => 95 | 267 => 96 | 266 => 104 | 314 => 105 | n => n, fun | 9 => 9 | 3 => 3 | 4 => 4 | 5 => 5 | 46 => 121 | 146 => 130 | 51 => 129 | n => n, fun | 1 => 1 | n => n⟩
theorem Tryz.lays143 : Go.Proofs.Lays.n143 Tryz.prog Tryz.lays143_ren := {
 mixed := by kernel_rfl
 f143 := Tryz.func52.trans (congrArg some (by kernel_rfl))
 f217 := Tryz.func93.trans (congrArg some (by kernel_rfl))
 f219 := Tryz.func77.trans (congrArg some (by kernel_rfl))
 f224 := Tryz.func95.trans (congrArg some (by kernel_rfl))
 f225 := Tryz.func94.trans (congrArg some (by kernel_rfl))
 f266 := Tryz.func104.trans (congrArg some (by kernel_rfl))
 f267 := Tryz.func96.trans (congrArg some (by kernel_rfl))
 f314 := Tryz.func105.trans (congrArg some (by kernel_rfl))
 t3 := Tryz.underlying3
 a3 := Tryz.isAgg3
 z3 := Tryz.sizeOf3
 v3 := Tryz.zeroValue3
 t4 := Tryz.underlying4
 a4 := Tryz.isAgg4
 z4 := Tryz.sizeOf4
 v4 := Tryz.zeroValue4
 t5 := Tryz.underlying5
 a5 := Tryz.isAgg5
 z5 := Tryz.sizeOf5
 v5 := Tryz.zeroValue5
 t9 := Tryz.underlying9
 a9 := Tryz.isAgg9
 z9 := Tryz.sizeOf9
 v9 := Tryz.zeroValue9
 t46 := Tryz.underlying121
 a46 := Tryz.isAgg121
 z46 := Tryz.sizeOf121
 v46 := Tryz.zeroValue121
 t51 := Tryz.underlying129
 a51 := Tryz.isAgg129
 z51 := Tryz.sizeOf129
 v51 := Tryz.zeroValue129
 t146 := Tryz.underlying130
 a146 := Tryz.isAgg130
 z146 := Tryz.sizeOf130
 v146 := Tryz.zeroValue130
 g1 := by kernel_rfl }
def Tryz.lays227_ren : Go.Shelf.Ren := ⟨fun | 227 => 65 | n => n, fun | 9 => 9 | 116 => 101 | 4 => 4 | 0 => 0 | 3 => 3 | 5 => 5 | n => n, fun | n => n⟩
theorem Tryz.lays227 : Go.Proofs.Lays.n227 Tryz.prog Tryz.lays227_ren := {
 mixed := by kernel_rfl
 f227 := Tryz.func65.trans (congrArg some (by kernel_rfl))
 t0 := Tryz.underlying0
 a0 := Tryz.isAgg0
 z0 := Tryz.sizeOf0
 v0 := Tryz.zeroValue0
 t3 := Tryz.underlying3
 a3 := Tryz.isAgg3
 z3 := Tryz.sizeOf3
 v3 := Tryz.zeroValue3
 t4 := Tryz.underlying4
 a4 := Tryz.isAgg4
 z4 := Tryz.sizeOf4
 v4 := Tryz.zeroValue4
 t5 := Tryz.underlying5
 a5 := Tryz.isAgg5
 z5 := Tryz.sizeOf5
 v5 := Tryz.zeroValue5
 t9 := Tryz.underlying9
 a9 := Tryz.isAgg9
 z9 := Tryz.sizeOf9
 v9 := Tryz.zeroValue9
 t116 := Tryz.underlying101
 a116 := Tryz.isAgg101
 z116 := Tryz.sizeOf101 }
def Tryz.lays228_ren : Go.Shelf.Ren := ⟨fun | 228 => 87 | n => n, fun | 124 => 105 | 5 => 5 | 4 => 4 | 0 => 0 | 116 => 101 | n => n, fun | n => n⟩
theorem Tryz.lays228 : Go.Proofs.Lays.n228 Tryz.prog Tryz.lays228_ren := {
 mixed := by kernel_rfl
 f228 := Tryz.func87.trans (congrArg some (by kernel_rfl))
 t0 := Tryz.underlying0
 a0 := Tryz.isAgg0
 z0 := Tryz.sizeOf0
 v0 := Tryz.zeroValue0
 t4 := Tryz.underlying4
 a4 := Tryz.isAgg4
 z4 := Tryz.sizeOf4
 v4 := Tryz.zeroValue4
 t5 := Tryz.underlying5
 a5 := Tryz.isAgg5
 z5 := Tryz.sizeOf5
 v5 := Tryz.zeroValue5
 t116 := Tryz.underlying101
 a116 := Tryz.isAgg101
 z116 := Tryz.sizeOf101
 t124 := Tryz.underlying105
 a124 := Tryz.isAgg105
 z124 := Tryz.sizeOf105
 v124 := Tryz.zeroValue105 }
theorem Tryz.Builder_Extra_156 : Builder.Extra Tryz.prog Tryz.lays156_ren := {
 sizeBuilder := by kernel_rfl
 liesBuilder := by kernel_rfl
 t5 := Tryz.underlying5
 a5 := Tryz.isAgg5
 z5 := Tryz.sizeOf5
 v5 := Tryz.zeroValue5
 infoByte := by kernel_rfl
 cellsByte := by kernel_rfl
 sizeByte := by kernel_rfl
 neB5 := by decide }
open Go.RowKit in
theorem Tryz.strings_Join_none (a : Option Addr) (c : Nat) (sep : ByteArray) (w : World) :
  Calls Tryz.prog 23 #[.slice a 0 c, .string sep] w fun e w' => e = .returned (.string ⟨#[]⟩) ∧ w' = w := Any.strings_Join_none Tryz.lays156 Tryz.Builder_Extra_156 a c sep w
open Go.RowKit in
theorem Tryz.strings_Join (bk o c : Nat) (xs : List ByteArray) (sep : ByteArray) (w : World) (hcells : ∀ (j : Nat) x, xs[j]? = some x → w.cell? ⟨bk, o + j, none⟩ = some (.string x)) (hbk : bk < w.heap.size) (hN : xs.length ≤ 140737488355328) (hcap : xs.length ≤ c) (hlen : (Lib.join (xs.map (·.data.toList)) sep.data.toList).length ≤ 140737488355328) :
  Calls Tryz.prog 23 #[.slice (some ⟨bk, o, none⟩) xs.length c, .string sep] w fun e w' => e = .returned (.string ⟨(Lib.join (xs.map (·.data.toList)) sep.data.toList).toArray⟩) ∧ Below w.heap.size w w' := Any.strings_Join Tryz.lays156 Tryz.Builder_Extra_156 bk o c xs sep w hcells hbk hN hcap hlen
open Go.RowKit Go.Sort Go.Lib in
theorem Tryz.strconv_Itoa (n : Int) (h0 : -9223372036854775808 ≤ n) (h1 : n ≤ 9223372036854775807) (w : World) (htab : Lib.TabIs Tryz.prog w "internal/strconv.uint64pow10" .u64 Lib.pow10Tab) :
  Calls Tryz.prog 40 #[.int .i64 n] w fun e w' => e = .returned (.string ⟨(Lib.itoa n).toArray⟩) ∧ ∃ k os, w' = grow (w.drewN k) os := Any.strconv_Itoa Tryz.laysM171 n h0 h1 w htab
open Go.RowKit Go.Lib in
theorem Tryz.strings_Index (s sub : ByteArray) (m : Int) (w : World) (hs : s.size < 4294967281) (hm : w.cell? ⟨1, 0, none⟩ = some (.int .i64 m)) :
  Calls Tryz.prog 52 #[.string s, .string sub] w fun e w' => e = .returned (.int .i64 (Lib.index s.data.toList sub.data.toList)) ∧ w' = w := Any.strings_Index Tryz.lays143 s sub m w hs hm
open Go.RowKit Go.Lib in
theorem Tryz.strings_makeASCIISet (hv116 : ∀ w, (zeroValue 101).run Tryz.prog w = .ok (.agg (Array.replicate 256 (.bool false))) w) (chars : ByteArray) (w : World) (hs : chars.size < 4294967281) (hascii : ∀ (j : Nat) b, chars.data.toList[j]? = some b → b.toNat < 128) :
  Calls Tryz.prog 65 #[.string chars] w fun e w' => e = .returned (.tuple #[.agg (Lib.setCells chars.data.toList), .bool true]) ∧ w' = w.alloc (.cells (Lib.setCells chars.data.toList) 101) := Any.strings_makeASCIISet Tryz.lays227 hv116 (by kernel_rfl) chars w hs hascii
open Go.RowKit Go.Lib in
theorem Tryz.asciiSet_contains (b : Nat) (x : UInt8) (v : Bool) (w : World) (hc : w.cell? ⟨b, x.toNat, none⟩ = some (.bool v)) :
  Calls Tryz.prog 87 #[.pointer (some ⟨b, 0, none⟩), .int .u8 x.toNat] w fun e w' => e = .returned (.bool v) ∧ w' = w := Any.asciiSet_contains Tryz.lays228 b x v w hc
end Go.Proofs
