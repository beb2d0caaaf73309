/- Contracts of library functions at this program, laid by the kit's own tool out of what the kit has proved once for any program. -/
import Derived.Shelf.Strings.Builder1
import Derived.Shelf.Strings.Builder2
import Derived.Shelf.Strings.OnBuilder
import Derived.Shelf.Strings.Trim
import Derived.Shelf.Small.Utf8
import Derived.Shelf.Small.Strs
import Derived.Shelf.Small.Wraps
import Derived.Shelf.Strconv.Itoa0
import Derived.Shelf.Strconv.Itoa1
import Derived.Shelf.LaysM
import Derived.Shelf.Strconv.Itoa2
import Derived.Shelf.Strconv.Itoa3
import Derived.Shelf.Strings.Search1
import Derived.Shelf.Strings.Search2
import Derived.Shelf.Strings.Search3
import Derived.Shelf.Strings.Shaped
import Derived.Shelf.Strings.Prefix
import Derived.Shelf.Strings.Fold
import Derived.Shelf.Strings.Runes
import Derived.Shelf.Strings.AsciiSet
import Derived.Shelf.Unicode.DecodeSlow
import Derived.Shelf.Unicode.CaseLookup
import Derived.Shelf.Unicode.CaseConvert
import Derived.Test.YtogcmkphibegbaaDoorProg
namespace Go.Proofs
open Go.Shelf
def Tryd.lays170_ren : Go.Shelf.Ren := ⟨fun | 170 => 17 | n => n, fun | 70 => 39 | 3 => 3 | 0 => 0 | 72 => 42 | 37 => 40 | 5 => 5 | n => n, fun | n => n⟩
theorem Tryd.lays170 : Go.Proofs.Lays.n170 Tryd.prog Tryd.lays170_ren := {
 mixed := by kernel_rfl
 f170 := Tryd.func17.trans (congrArg some (by kernel_rfl))
 t0 := Tryd.underlying0
 a0 := Tryd.isAgg0
 z0 := Tryd.sizeOf0
 v0 := Tryd.zeroValue0
 t3 := Tryd.underlying3
 a3 := Tryd.isAgg3
 z3 := Tryd.sizeOf3
 v3 := Tryd.zeroValue3
 t37 := Tryd.underlying40
 a37 := Tryd.isAgg40
 z37 := Tryd.sizeOf40
 v37 := Tryd.zeroValue40
 t70 := Tryd.underlying39
 a70 := Tryd.isAgg39
 z70 := Tryd.sizeOf39
 v70 := Tryd.zeroValue39
 t72 := Tryd.underlying42
 a72 := Tryd.isAgg42
 z72 := Tryd.sizeOf42
 v72 := Tryd.zeroValue42 }
def Tryd.lays156_ren : Go.Shelf.Ren := ⟨fun | 156 => 30 | 165 => 50 | 166 => 14 | 169 => 18 | 240 => 35 | 241 => 92 | 276 => 66 | 277 => 117 | n => n, fun | 31 => 61 | 9 => 9 | 3 => 3 | 4 => 4 | 0 => 0 | 20 => 20 | 72 => 42 | 76 => 48 | 70 => 39 | 37 => 40 | 75 => 47 | 127 => 69 | 164 => 94 | 5 => 5 | 80 => 53 | n => n, fun | n => n⟩
theorem Tryd.lays156 : Go.Proofs.Lays.n156 Tryd.prog Tryd.lays156_ren := {
 mixed := by kernel_rfl
 f156 := Tryd.func30.trans (congrArg some (by kernel_rfl))
 f165 := Tryd.func50.trans (congrArg some (by kernel_rfl))
 f166 := Tryd.func14.trans (congrArg some (by kernel_rfl))
 f169 := Tryd.func18.trans (congrArg some (by kernel_rfl))
 f240 := Tryd.func35.trans (congrArg some (by kernel_rfl))
 f241 := Tryd.func92.trans (congrArg some (by kernel_rfl))
 f276 := Tryd.func66.trans (congrArg some (by kernel_rfl))
 f277 := Tryd.func117.trans (congrArg some (by kernel_rfl))
 t0 := Tryd.underlying0
 a0 := Tryd.isAgg0
 z0 := Tryd.sizeOf0
 v0 := Tryd.zeroValue0
 t3 := Tryd.underlying3
 a3 := Tryd.isAgg3
 z3 := Tryd.sizeOf3
 v3 := Tryd.zeroValue3
 t4 := Tryd.underlying4
 a4 := Tryd.isAgg4
 z4 := Tryd.sizeOf4
 v4 := Tryd.zeroValue4
 t9 := Tryd.underlying9
 a9 := Tryd.isAgg9
 z9 := Tryd.sizeOf9
 v9 := Tryd.zeroValue9
 t20 := Tryd.underlying20
 a20 := Tryd.isAgg20
 z20 := Tryd.sizeOf20
 v20 := Tryd.zeroValue20
 t31 := Tryd.underlying61
 a31 := Tryd.isAgg61
 z31 := Tryd.sizeOf61
 v31 := Tryd.zeroValue61
 t37 := Tryd.underlying40
 a37 := Tryd.isAgg40
 z37 := Tryd.sizeOf40
 v37 := Tryd.zeroValue40
 t70 := Tryd.underlying39
 a70 := Tryd.isAgg39
 z70 := Tryd.sizeOf39
 v70 := Tryd.zeroValue39
 t72 := Tryd.underlying42
 a72 := Tryd.isAgg42
 z72 := Tryd.sizeOf42
 v72 := Tryd.zeroValue42
 t75 := Tryd.underlying47
 a75 := Tryd.isAgg47
 z75 := Tryd.sizeOf47
 v75 := Tryd.zeroValue47
 t76 := Tryd.underlying48
 a76 := Tryd.isAgg48
 z76 := Tryd.sizeOf48
 v76 := Tryd.zeroValue48
 t127 := Tryd.underlying69
 a127 := Tryd.isAgg69
 z127 := Tryd.sizeOf69
 v127 := Tryd.zeroValue69
 t164 := Tryd.underlying94
 a164 := Tryd.isAgg94
 z164 := Tryd.sizeOf94
 v164 := Tryd.zeroValue94 }
def Tryd.lays162_ren : Go.Shelf.Ren := ⟨fun | 162 => 49 | 232 => 88 | 227 => 89 | 234 => 90 | 236 => 91 | 228 => 114 | 271 => 115 | 151 => 116 | 120 => 126 | 197 => 64 | 152 => 127 | 260 => 105 | 137 => 135 | 119 => 136 | 224 => 120 | 225 => 119 | 217 => 118 | 266 => 128 | n => n, fun | 9 => 9 | 4 => 4 | 3 => 3 | 5 => 5 | 117 => 112 | 116 => 111 | 0 => 0 | 124 => 115 | 21 => 21 | 105 => 91 | 46 => 122 | 119 => 136 | 139 => 139 | 138 => 138 | n => n, fun | 3 => 5 | 4 => 6 | n => n⟩
theorem Tryd.lays162 : Go.Proofs.Lays.n162 Tryd.prog Tryd.lays162_ren := {
 mixed := by kernel_rfl
 f119 := Tryd.func136.trans (congrArg some (by kernel_rfl))
 f120 := Tryd.func126.trans (congrArg some (by kernel_rfl))
 f137 := Tryd.func135.trans (congrArg some (by kernel_rfl))
 f151 := Tryd.func116.trans (congrArg some (by kernel_rfl))
 f152 := Tryd.func127.trans (congrArg some (by kernel_rfl))
 f162 := Tryd.func49.trans (congrArg some (by kernel_rfl))
 f197 := Tryd.func64.trans (congrArg some (by kernel_rfl))
 f217 := Tryd.func118.trans (congrArg some (by kernel_rfl))
 f224 := Tryd.func120.trans (congrArg some (by kernel_rfl))
 f225 := Tryd.func119.trans (congrArg some (by kernel_rfl))
 f227 := Tryd.func89.trans (congrArg some (by kernel_rfl))
 f228 := Tryd.func114.trans (congrArg some (by kernel_rfl))
 f232 := Tryd.func88.trans (congrArg some (by kernel_rfl))
 f234 := Tryd.func90.trans (congrArg some (by kernel_rfl))
 f236 := Tryd.func91.trans (congrArg some (by kernel_rfl))
 f260 := Tryd.func105.trans (congrArg some (by kernel_rfl))
 f266 := Tryd.func128.trans (congrArg some (by kernel_rfl))
 f271 := Tryd.func115.trans (congrArg some (by kernel_rfl))
 t0 := Tryd.underlying0
 a0 := Tryd.isAgg0
 z0 := Tryd.sizeOf0
 v0 := Tryd.zeroValue0
 t3 := Tryd.underlying3
 a3 := Tryd.isAgg3
 z3 := Tryd.sizeOf3
 v3 := Tryd.zeroValue3
 t4 := Tryd.underlying4
 a4 := Tryd.isAgg4
 z4 := Tryd.sizeOf4
 v4 := Tryd.zeroValue4
 t5 := Tryd.underlying5
 a5 := Tryd.isAgg5
 z5 := Tryd.sizeOf5
 v5 := Tryd.zeroValue5
 t9 := Tryd.underlying9
 a9 := Tryd.isAgg9
 z9 := Tryd.sizeOf9
 v9 := Tryd.zeroValue9
 t21 := Tryd.underlying21
 a21 := Tryd.isAgg21
 z21 := Tryd.sizeOf21
 v21 := Tryd.zeroValue21
 t46 := Tryd.underlying122
 a46 := Tryd.isAgg122
 z46 := Tryd.sizeOf122
 v46 := Tryd.zeroValue122
 t105 := Tryd.underlying91
 a105 := Tryd.isAgg91
 z105 := Tryd.sizeOf91
 v105 := Tryd.zeroValue91
 t116 := Tryd.underlying111
 a116 := Tryd.isAgg111
 z116 := Tryd.sizeOf111
 t117 := Tryd.underlying112
 a117 := Tryd.isAgg112
 z117 := Tryd.sizeOf112
 v117 := Tryd.zeroValue112
 t119 := Tryd.underlying136
 a119 := Tryd.isAgg136
 z119 := Tryd.sizeOf136
 t124 := Tryd.underlying115
 a124 := Tryd.isAgg115
 z124 := Tryd.sizeOf115
 v124 := Tryd.zeroValue115
 t138 := Tryd.underlying138
 a138 := Tryd.isAgg138
 z138 := Tryd.sizeOf138
 v138 := Tryd.zeroValue138
 t139 := Tryd.underlying139
 a139 := Tryd.isAgg139
 z139 := Tryd.sizeOf139
 v139 := Tryd.zeroValue139
 g3 := by kernel_rfl
 g4 := by kernel_rfl }
def Tryd.laysM171_ren : Go.Shelf.Ren := ⟨fun | 171 => 48 | 243 => 87 | 246 => 113 | 283 => 122 | 284 => 123 | 285 => 124 | 286 => 125 | 129 => 131 | 317 => 130 | 318 => 132 | 319 => 133 | 320 => 134 | 337 => 137 | 338 => 138 | n => n, fun | 3 => 3 | 9 => 9 | 2 => 2 | 4 => 4 | 171 => 145 | 0 => 0 | 53 => 146 | 37 => 40 | 5 => 5 | 173 => 149 | 212 => 155 | 51 => 140 | 20 => 20 | 213 => 156 | 46 => 122 | 232 => 161 | 233 => 162 | n => n, fun | 17 => 7 | 18 => 8 | 19 => 9 | n => n⟩
theorem Tryd.laysM171 : Go.Proofs.LaysM.n171 Tryd.prog Tryd.laysM171_ren := {
 mixed := by kernel_rfl
 f129 := Tryd.func131.trans (congrArg some (by kernel_rfl))
 f171 := Tryd.func48.trans (congrArg some (by kernel_rfl))
 f243 := Tryd.func87.trans (congrArg some (by kernel_rfl))
 f246 := Tryd.func113.trans (congrArg some (by kernel_rfl))
 f283 := Tryd.func122.trans (congrArg some (by kernel_rfl))
 f284 := Tryd.func123.trans (congrArg some (by kernel_rfl))
 f285 := Tryd.func124.trans (congrArg some (by kernel_rfl))
 f286 := Tryd.func125.trans (congrArg some (by kernel_rfl))
 f317 := Tryd.func130.trans (congrArg some (by kernel_rfl))
 f318 := Tryd.func132.trans (congrArg some (by kernel_rfl))
 f319 := Tryd.func133.trans (congrArg some (by kernel_rfl))
 f320 := Tryd.func134.trans (congrArg some (by kernel_rfl))
 f337 := Tryd.func137.trans (congrArg some (by kernel_rfl))
 f338 := Tryd.func138.trans (congrArg some (by kernel_rfl))
 t0 := Tryd.underlying0
 a0 := Tryd.isAgg0
 z0 := Tryd.sizeOf0
 v0 := Tryd.zeroValue0
 t2 := Tryd.underlying2
 a2 := Tryd.isAgg2
 z2 := Tryd.sizeOf2
 v2 := Tryd.zeroValue2
 t3 := Tryd.underlying3
 a3 := Tryd.isAgg3
 z3 := Tryd.sizeOf3
 v3 := Tryd.zeroValue3
 t4 := Tryd.underlying4
 a4 := Tryd.isAgg4
 z4 := Tryd.sizeOf4
 v4 := Tryd.zeroValue4
 t5 := Tryd.underlying5
 a5 := Tryd.isAgg5
 z5 := Tryd.sizeOf5
 v5 := Tryd.zeroValue5
 t9 := Tryd.underlying9
 a9 := Tryd.isAgg9
 z9 := Tryd.sizeOf9
 v9 := Tryd.zeroValue9
 t20 := Tryd.underlying20
 a20 := Tryd.isAgg20
 z20 := Tryd.sizeOf20
 v20 := Tryd.zeroValue20
 t37 := Tryd.underlying40
 a37 := Tryd.isAgg40
 z37 := Tryd.sizeOf40
 v37 := Tryd.zeroValue40
 t46 := Tryd.underlying122
 a46 := Tryd.isAgg122
 z46 := Tryd.sizeOf122
 v46 := Tryd.zeroValue122
 t51 := Tryd.underlying140
 a51 := Tryd.isAgg140
 z51 := Tryd.sizeOf140
 v51 := Tryd.zeroValue140
 t53 := Tryd.underlying146
 a53 := Tryd.isAgg146
 z53 := Tryd.sizeOf146
 v53 := Tryd.zeroValue146
 t171 := Tryd.underlying145
 a171 := Tryd.isAgg145
 z171 := Tryd.sizeOf145
 v171 := Tryd.zeroValue145
 t173 := Tryd.underlying149
 a173 := Tryd.isAgg149
 z173 := Tryd.sizeOf149
 v173 := Tryd.zeroValue149
 t212 := Tryd.underlying155
 a212 := Tryd.isAgg155
 z212 := Tryd.sizeOf155
 v212 := Tryd.zeroValue155
 t213 := Tryd.underlying156
 a213 := Tryd.isAgg156
 z213 := Tryd.sizeOf156
 t232 := Tryd.underlying161
 a232 := Tryd.isAgg161
 z232 := Tryd.sizeOf161
 v232 := Tryd.zeroValue161
 t233 := Tryd.underlying162
 a233 := Tryd.isAgg162
 z233 := Tryd.sizeOf162
 v233 := Tryd.zeroValue162
 g17 := by kernel_rfl
 g18 := by kernel_rfl
 g19 := by kernel_rfl
 i0 := by kernel_rfl
 i2 := by kernel_rfl
 i3 := by kernel_rfl
 i4 := by kernel_rfl
 i5 := by kernel_rfl
 i9 := by kernel_rfl
 i20 := by kernel_rfl
 i37 := by kernel_rfl
 i46 := by kernel_rfl
 i51 := by kernel_rfl
 i53 := by kernel_rfl
 i171 := by kernel_rfl
 i173 := by kernel_rfl
 i212 := by kernel_rfl
 i232 := by kernel_rfl
 i233 := by kernel_rfl
 m17 := by kernel_rfl
 m18 := by kernel_rfl
 m19 := by kernel_rfl }
def Tryd.lays143_ren : Go.Shelf.Ren := ⟨fun | 143 => 55 | 219 => 97 | 217 => 118 | 225 => 119 | 224 => 120 | 267 => 121 | 266 => 128 | 314 => 129 | n => n, fun | 9 => 9 | 3 => 3 | 4 => 4 | 5 => 5 | 46 => 122 | 146 => 152 | 51 => 140 | n => n, fun | 1 => 4 | n => n⟩
theorem Tryd.lays143 : Go.Proofs.Lays.n143 Tryd.prog Tryd.lays143_ren := {
 mixed := by kernel_rfl
 f143 := Tryd.func55.trans (congrArg some (by kernel_rfl))
 f217 := Tryd.func118.trans (congrArg some (by kernel_rfl))
 f219 := Tryd.func97.trans (congrArg some (by kernel_rfl))
 f224 := Tryd.func120.trans (congrArg some (by kernel_rfl))
 f225 := Tryd.func119.trans (congrArg some (by kernel_rfl))
 f266 := Tryd.func128.trans (congrArg some (by kernel_rfl))
 f267 := Tryd.func121.trans (congrArg some (by kernel_rfl))
 f314 := Tryd.func129.trans (congrArg some (by kernel_rfl))
 t3 := Tryd.underlying3
 a3 := Tryd.isAgg3
 z3 := Tryd.sizeOf3
 v3 := Tryd.zeroValue3
 t4 := Tryd.underlying4
 a4 := Tryd.isAgg4
 z4 := Tryd.sizeOf4
 v4 := Tryd.zeroValue4
 t5 := Tryd.underlying5
 a5 := Tryd.isAgg5
 z5 := Tryd.sizeOf5
 v5 := Tryd.zeroValue5
 t9 := Tryd.underlying9
 a9 := Tryd.isAgg9
 z9 := Tryd.sizeOf9
 v9 := Tryd.zeroValue9
 t46 := Tryd.underlying122
 a46 := Tryd.isAgg122
 z46 := Tryd.sizeOf122
 v46 := Tryd.zeroValue122
 t51 := Tryd.underlying140
 a51 := Tryd.isAgg140
 z51 := Tryd.sizeOf140
 v51 := Tryd.zeroValue140
 t146 := Tryd.underlying152
 a146 := Tryd.isAgg152
 z146 := Tryd.sizeOf152
 v146 := Tryd.zeroValue152
 g1 := by kernel_rfl }
def Tryd.lays227_ren : Go.Shelf.Ren := ⟨fun | 227 => 89 | n => n, fun | 9 => 9 | 116 => 111 | 4 => 4 | 0 => 0 | 3 => 3 | 5 => 5 | n => n, fun | n => n⟩
theorem Tryd.lays227 : Go.Proofs.Lays.n227 Tryd.prog Tryd.lays227_ren := {
 mixed := by kernel_rfl
 f227 := Tryd.func89.trans (congrArg some (by kernel_rfl))
 t0 := Tryd.underlying0
 a0 := Tryd.isAgg0
 z0 := Tryd.sizeOf0
 v0 := Tryd.zeroValue0
 t3 := Tryd.underlying3
 a3 := Tryd.isAgg3
 z3 := Tryd.sizeOf3
 v3 := Tryd.zeroValue3
 t4 := Tryd.underlying4
 a4 := Tryd.isAgg4
 z4 := Tryd.sizeOf4
 v4 := Tryd.zeroValue4
 t5 := Tryd.underlying5
 a5 := Tryd.isAgg5
 z5 := Tryd.sizeOf5
 v5 := Tryd.zeroValue5
 t9 := Tryd.underlying9
 a9 := Tryd.isAgg9
 z9 := Tryd.sizeOf9
 v9 := Tryd.zeroValue9
 t116 := Tryd.underlying111
 a116 := Tryd.isAgg111
 z116 := Tryd.sizeOf111 }
def Tryd.lays228_ren : Go.Shelf.Ren := ⟨fun | 228 => 114 | n => n, fun | 124 => 115 | 5 => 5 | 4 => 4 | 0 => 0 | 116 => 111 | n => n, fun | n => n⟩
theorem Tryd.lays228 : Go.Proofs.Lays.n228 Tryd.prog Tryd.lays228_ren := {
 mixed := by kernel_rfl
 f228 := Tryd.func114.trans (congrArg some (by kernel_rfl))
 t0 := Tryd.underlying0
 a0 := Tryd.isAgg0
 z0 := Tryd.sizeOf0
 v0 := Tryd.zeroValue0
 t4 := Tryd.underlying4
 a4 := Tryd.isAgg4
 z4 := Tryd.sizeOf4
 v4 := Tryd.zeroValue4
 t5 := Tryd.underlying5
 a5 := Tryd.isAgg5
 z5 := Tryd.sizeOf5
 v5 := Tryd.zeroValue5
 t116 := Tryd.underlying111
 a116 := Tryd.isAgg111
 z116 := Tryd.sizeOf111
 t124 := Tryd.underlying115
 a124 := Tryd.isAgg115
 z124 := Tryd.sizeOf115
 v124 := Tryd.zeroValue115 }
open Go.RowKit in
theorem Tryd.Builder_Len (B b : Nat) (bs : List Value) (w : World) (h : Lib.IsBuilder 42 5 B b bs w) :
  Calls Tryd.prog 17 #[.pointer (some ⟨b, 0, none⟩)] w fun e w' => e = .returned (.int .i64 bs.length) ∧ w' = w := Any.Builder_Len Tryd.lays170 B b bs w h
theorem Tryd.Builder_Extra_156 : Builder.Extra Tryd.prog Tryd.lays156_ren := {
 sizeBuilder := by kernel_rfl
 liesBuilder := by kernel_rfl
 t5 := Tryd.underlying5
 a5 := Tryd.isAgg5
 z5 := Tryd.sizeOf5
 v5 := Tryd.zeroValue5
 infoByte := by kernel_rfl
 cellsByte := by kernel_rfl
 sizeByte := by kernel_rfl
 neB5 := by decide }
open Go.RowKit in
theorem Tryd.strings_Join_none (a : Option Addr) (c : Nat) (sep : ByteArray) (w : World) :
  Calls Tryd.prog 30 #[.slice a 0 c, .string sep] w fun e w' => e = .returned (.string ⟨#[]⟩) ∧ w' = w := Any.strings_Join_none Tryd.lays156 Tryd.Builder_Extra_156 a c sep w
open Go.RowKit in
theorem Tryd.strings_Join (bk o c : Nat) (xs : List ByteArray) (sep : ByteArray) (w : World) (hcells : ∀ (j : Nat) x, xs[j]? = some x → w.cell? ⟨bk, o + j, none⟩ = some (.string x)) (hbk : bk < w.heap.size) (hN : xs.length ≤ 140737488355328) (hcap : xs.length ≤ c) (hlen : (Lib.join (xs.map (·.data.toList)) sep.data.toList).length ≤ 140737488355328) :
  Calls Tryd.prog 30 #[.slice (some ⟨bk, o, none⟩) xs.length c, .string sep] w fun e w' => e = .returned (.string ⟨(Lib.join (xs.map (·.data.toList)) sep.data.toList).toArray⟩) ∧ Below w.heap.size w w' := Any.strings_Join Tryd.lays156 Tryd.Builder_Extra_156 bk o c xs sep w hcells hbk hN hcap hlen
open Go.RowKit Go.Sort Go.Lib in
theorem Tryd.strconv_Itoa (n : Int) (h0 : -9223372036854775808 ≤ n) (h1 : n ≤ 9223372036854775807) (w : World) (htab : Lib.TabIs Tryd.prog w "internal/strconv.uint64pow10" .u64 Lib.pow10Tab) :
  Calls Tryd.prog 48 #[.int .i64 n] w fun e w' => e = .returned (.string ⟨(Lib.itoa n).toArray⟩) ∧ ∃ k os, w' = grow (w.drewN k) os := Any.strconv_Itoa Tryd.laysM171 n h0 h1 w htab
open Go.RowKit Go.Lib in
theorem Tryd.strings_Index (s sub : ByteArray) (m : Int) (w : World) (hs : s.size < 4294967281) (hm : w.cell? ⟨4, 0, none⟩ = some (.int .i64 m)) :
  Calls Tryd.prog 55 #[.string s, .string sub] w fun e w' => e = .returned (.int .i64 (Lib.index s.data.toList sub.data.toList)) ∧ w' = w := Any.strings_Index Tryd.lays143 s sub m w hs hm
open Go.RowKit Go.Lib in
theorem Tryd.strings_makeASCIISet (hv116 : ∀ w, (zeroValue 111).run Tryd.prog w = .ok (.agg (Array.replicate 256 (.bool false))) w) (chars : ByteArray) (w : World) (hs : chars.size < 4294967281) (hascii : ∀ (j : Nat) b, chars.data.toList[j]? = some b → b.toNat < 128) :
  Calls Tryd.prog 89 #[.string chars] w fun e w' => e = .returned (.tuple #[.agg (Lib.setCells chars.data.toList), .bool true]) ∧ w' = w.alloc (.cells (Lib.setCells chars.data.toList) 111) := Any.strings_makeASCIISet Tryd.lays227 hv116 (by kernel_rfl) chars w hs hascii
open Go.RowKit Go.Lib in
theorem Tryd.asciiSet_contains (b : Nat) (x : UInt8) (v : Bool) (w : World) (hc : w.cell? ⟨b, x.toNat, none⟩ = some (.bool v)) :
  Calls Tryd.prog 114 #[.pointer (some ⟨b, 0, none⟩), .int .u8 x.toNat] w fun e w' => e = .returned (.bool v) ∧ w' = w := Any.asciiSet_contains Tryd.lays228 b x v w hc
end Go.Proofs
