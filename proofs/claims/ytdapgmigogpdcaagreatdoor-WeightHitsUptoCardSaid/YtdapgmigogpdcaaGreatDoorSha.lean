/- Contracts of library functions at this program, laid by the kit's own tool out of what the kit has proved once for any program. -/
import Derived.Shelf.Strings.Builder1
import Derived.Shelf.Strings.Builder2
import Derived.Shelf.Strings.OnBuilder
import Derived.Shelf.Strings.Trim
import Derived.Shelf.Small.Utf8
import Derived.Shelf.Small.Bits
import Derived.Shelf.Small.Strs
import Derived.Shelf.Small.Wraps
import Derived.Shelf.Strconv.Atoi
import Derived.Shelf.Strconv.Itoa0
import Derived.Shelf.Strconv.Itoa1
import Derived.Shelf.LaysM
import Derived.Shelf.Strconv.Itoa2
import Derived.Shelf.Strconv.Itoa3
import Derived.Shelf.Strconv.AtoiErrFast
import Derived.Shelf.Strconv.ParseIntEmpty
import Derived.Shelf.Strconv.AtoiFail
import Derived.Shelf.Strconv.Clone
import Derived.Shelf.Strconv.SyntaxError
import Derived.Shelf.LaysC
import Derived.Shelf.Strconv.ToError
import Derived.Shelf.Strconv.Lower
import Derived.Shelf.Strconv.ParseUint10
import Derived.Shelf.Strconv.ParseUint10Empty
import Derived.Shelf.Strconv.ParseUint10Any
import Derived.Shelf.Strconv.ParseInt10
import Derived.Shelf.Strconv.AtoiLong
import Derived.Shelf.Strconv.AtoiInnerAll
import Derived.Shelf.Strconv.RangeError
import Derived.Shelf.Strconv.ToErrorRange
import Derived.Shelf.Strconv.AtoiAll
import Derived.Shelf.Strings.Search1
import Derived.Shelf.Strings.Search2
import Derived.Shelf.Strings.Search3
import Derived.Shelf.Strings.Cut
import Derived.Shelf.Strings.Count
import Derived.Shelf.Strings.Shaped
import Derived.Shelf.Sort.Plain
import Derived.Shelf.Strings.Prefix
import Derived.Shelf.Strings.Runes
import Derived.Shelf.Strings.AsciiSet
import Derived.Shelf.Unicode.DecodeSlow
import Derived.Shelf.Unicode.DecodeAny
import Derived.Shelf.Unicode.DecodeLast
import Derived.Shelf.Strings.FieldsFuncAny
import Derived.Shelf.Strings.FieldsFuncGrows
import Derived.Ground.Names2Prog
import Derived.Shelf.Slices.CompactI
import Derived.Shelf.Slices.In.SortNone
import Derived.Test.YtdapgmigogpdcaaGreatDoorProg
namespace Go.Proofs
open _root_.Go.Proofs.Tryz
open Go.Shelf
def Tryz.Ah:Go.Shelf.Ren:=⟨fun | 156=>51 | 165=>84 | 166=>48 | 169=>50 | 240=>80 | 241=>128 | 276=>123 | 277=>176 | n=>n,fun | 31=>84 | 9=>9 | 3=>3 | 4=>4 | 0=>0 | 20=>20 | 72=>87 | 76=>91 | 70=>85 | 37=>26 | 75=>89 | 127=>121 | 164=>145 | 5=>5 | 80=>95 | n=>n,fun | n=>n⟩
theorem Tryz.Po:Go.Proofs.Lays.n156 prog Tryz.Ah:={
 mixed:=by kernel_rfl
 f156:=func51.trans (congrArg some (by kernel_rfl))
 f165:=func84.trans (congrArg some (by kernel_rfl))
 f166:=func48.trans (congrArg some (by kernel_rfl))
 f169:=func50.trans (congrArg some (by kernel_rfl))
 f240:=func80.trans (congrArg some (by kernel_rfl))
 f241:=func128.trans (congrArg some (by kernel_rfl))
 f276:=func123.trans (congrArg some (by kernel_rfl))
 f277:=func176.trans (congrArg some (by kernel_rfl))
 t0:=underlying0
 a0:=isAgg0
 z0:=Tryz.sizeOf0
 v0:=Tryz.zeroValue0
 t3:=underlying3
 a3:=isAgg3
 z3:=Tryz.sizeOf3
 v3:=Tryz.zeroValue3
 t4:=underlying4
 a4:=isAgg4
 z4:=Tryz.sizeOf4
 v4:=Tryz.zeroValue4
 t9:=underlying9
 a9:=isAgg9
 z9:=Tryz.sizeOf9
 v9:=Tryz.zeroValue9
 t20:=underlying20
 a20:=isAgg20
 z20:=Tryz.sizeOf20
 v20:=Tryz.zeroValue20
 t31:=underlying84
 a31:=isAgg84
 z31:=Tryz.sizeOf84
 v31:=Tryz.zeroValue84
 t37:=underlying26
 a37:=isAgg26
 z37:=Tryz.sizeOf26
 v37:=Tryz.zeroValue26
 t70:=underlying85
 a70:=isAgg85
 z70:=Tryz.sizeOf85
 v70:=Tryz.zeroValue85
 t72:=underlying87
 a72:=isAgg87
 z72:=Tryz.sizeOf87
 v72:=Tryz.zeroValue87
 t75:=underlying89
 a75:=isAgg89
 z75:=Tryz.sizeOf89
 v75:=Tryz.zeroValue89
 t76:=underlying91
 a76:=isAgg91
 z76:=Tryz.sizeOf91
 v76:=Tryz.zeroValue91
 t127:=underlying121
 a127:=isAgg121
 z127:=Tryz.sizeOf121
 v127:=Tryz.zeroValue121
 t164:=underlying145
 a164:=isAgg145
 z164:=Tryz.sizeOf145
 v164:=Tryz.zeroValue145 }
def Tryz.KD:Go.Shelf.Ren:=⟨fun | 160=>101 | 232=>144 | 231=>130 | 227=>131 | 234=>145 | 233=>132 | 236=>146 | 235=>133 | 228=>177 | 271=>185 | 151=>153 | 197=>178 | 120=>210 | 152=>196 | 260=>207 | 137=>65 | 119=>213 | 224=>180 | 225=>179 | 217=>109 | 266=>148 | n=>n,fun | 9=>9 | 4=>4 | 3=>3 | 5=>5 | 117=>154 | 116=>153 | 0=>0 | 124=>157 | 21=>21 | 105=>198 | 46=>143 | 119=>232 | 139=>245 | 138=>244 | n=>n,fun | 3=>1 | 4=>2 | n=>n⟩
theorem Tryz.XF:Go.Proofs.Lays.n160 prog Tryz.KD:={
 mixed:=by kernel_rfl
 f119:=func213.trans (congrArg some (by kernel_rfl))
 f120:=func210.trans (congrArg some (by kernel_rfl))
 f137:=func65.trans (congrArg some (by kernel_rfl))
 f151:=func153.trans (congrArg some (by kernel_rfl))
 f152:=func196.trans (congrArg some (by kernel_rfl))
 f160:=func101.trans (congrArg some (by kernel_rfl))
 f197:=func178.trans (congrArg some (by kernel_rfl))
 f217:=func109.trans (congrArg some (by kernel_rfl))
 f224:=func180.trans (congrArg some (by kernel_rfl))
 f225:=func179.trans (congrArg some (by kernel_rfl))
 f227:=func131.trans (congrArg some (by kernel_rfl))
 f228:=func177.trans (congrArg some (by kernel_rfl))
 f231:=func130.trans (congrArg some (by kernel_rfl))
 f232:=func144.trans (congrArg some (by kernel_rfl))
 f233:=func132.trans (congrArg some (by kernel_rfl))
 f234:=func145.trans (congrArg some (by kernel_rfl))
 f235:=func133.trans (congrArg some (by kernel_rfl))
 f236:=func146.trans (congrArg some (by kernel_rfl))
 f260:=func207.trans (congrArg some (by kernel_rfl))
 f266:=func148.trans (congrArg some (by kernel_rfl))
 f271:=func185.trans (congrArg some (by kernel_rfl))
 t0:=underlying0
 a0:=isAgg0
 z0:=Tryz.sizeOf0
 v0:=Tryz.zeroValue0
 t3:=underlying3
 a3:=isAgg3
 z3:=Tryz.sizeOf3
 v3:=Tryz.zeroValue3
 t4:=underlying4
 a4:=isAgg4
 z4:=Tryz.sizeOf4
 v4:=Tryz.zeroValue4
 t5:=underlying5
 a5:=isAgg5
 z5:=Tryz.sizeOf5
 v5:=Tryz.zeroValue5
 t9:=underlying9
 a9:=isAgg9
 z9:=Tryz.sizeOf9
 v9:=Tryz.zeroValue9
 t21:=underlying21
 a21:=isAgg21
 z21:=Tryz.sizeOf21
 v21:=Tryz.zeroValue21
 t46:=underlying143
 a46:=isAgg143
 z46:=Tryz.sizeOf143
 v46:=Tryz.zeroValue143
 t105:=underlying198
 a105:=isAgg198
 z105:=Tryz.sizeOf198
 v105:=Tryz.zeroValue198
 t116:=underlying153
 a116:=isAgg153
 z116:=Tryz.sizeOf153
 t117:=underlying154
 a117:=isAgg154
 z117:=Tryz.sizeOf154
 v117:=Tryz.zeroValue154
 t119:=underlying232
 a119:=isAgg232
 z119:=Tryz.sizeOf232
 t124:=underlying157
 a124:=isAgg157
 z124:=Tryz.sizeOf157
 v124:=Tryz.zeroValue157
 t138:=underlying244
 a138:=isAgg244
 z138:=Tryz.sizeOf244
 v138:=Tryz.zeroValue244
 t139:=underlying245
 a139:=isAgg245
 z139:=Tryz.sizeOf245
 v139:=Tryz.zeroValue245
 g3:=by kernel_rfl
 g4:=by kernel_rfl }
def Tryz.KI:Go.Shelf.Ren:=⟨fun | 137=>65 | 217=>109 | 266=>148 | n=>n,fun | 9=>9 | 5=>5 | 3=>3 | n=>n,fun | n=>n⟩
theorem Tryz.XJ:Go.Proofs.Lays.n137 prog Tryz.KI:={
 mixed:=by kernel_rfl
 f137:=func65.trans (congrArg some (by kernel_rfl))
 f217:=func109.trans (congrArg some (by kernel_rfl))
 f266:=func148.trans (congrArg some (by kernel_rfl))
 t3:=underlying3
 a3:=isAgg3
 z3:=Tryz.sizeOf3
 v3:=Tryz.zeroValue3
 t5:=underlying5
 a5:=isAgg5
 z5:=Tryz.sizeOf5
 v5:=Tryz.zeroValue5
 t9:=underlying9
 a9:=isAgg9
 z9:=Tryz.sizeOf9
 v9:=Tryz.zeroValue9 }
def Tryz.KC:Go.Shelf.Ren:=⟨fun | 172=>250 | 244=>258 | 245=>259 | 247=>260 | 279=>261 | 280=>262 | 281=>263 | 282=>264 | 287=>265 | 316=>266 | 171=>127 | 205=>267 | 321=>268 | 322=>269 | 243=>175 | 246=>206 | 283=>221 | 284=>222 | 285=>223 | 286=>224 | 129=>171 | 317=>232 | 318=>233 | 319=>234 | 320=>235 | 337=>247 | 338=>248 | n=>n,fun | 9=>9 | 3=>3 | 75=>89 | 76=>91 | 4=>4 | 5=>5 | 167=>283 | 37=>26 | 0=>0 | 85=>284 | 2=>2 | 168=>286 | 53=>181 | 175=>289 | 46=>143 | 210=>292 | 127=>121 | 145=>297 | 143=>295 | 21=>21 | 171=>239 | 173=>241 | 212=>263 | 51=>179 | 20=>20 | 213=>264 | 232=>280 | 233=>281 | 80=>95 | n=>n,fun | 15=>6 | 16=>7 | 17=>3 | 18=>4 | 19=>5 | n=>n⟩
theorem Tryz.XE:Go.Proofs.Lays.n172 prog Tryz.KC:={
 mixed:=by kernel_rfl
 f129:=func171.trans (congrArg some (by kernel_rfl))
 f171:=func127.trans (congrArg some (by kernel_rfl))
 f172:=func250.trans (congrArg some (by kernel_rfl))
 f205:=func267.trans (congrArg some (by kernel_rfl))
 f243:=func175.trans (congrArg some (by kernel_rfl))
 f244:=func258.trans (congrArg some (by kernel_rfl))
 f245:=func259.trans (congrArg some (by kernel_rfl))
 f246:=func206.trans (congrArg some (by kernel_rfl))
 f247:=func260.trans (congrArg some (by kernel_rfl))
 f279:=func261.trans (congrArg some (by kernel_rfl))
 f280:=func262.trans (congrArg some (by kernel_rfl))
 f281:=func263.trans (congrArg some (by kernel_rfl))
 f282:=func264.trans (congrArg some (by kernel_rfl))
 f283:=func221.trans (congrArg some (by kernel_rfl))
 f284:=func222.trans (congrArg some (by kernel_rfl))
 f285:=func223.trans (congrArg some (by kernel_rfl))
 f286:=func224.trans (congrArg some (by kernel_rfl))
 f287:=func265.trans (congrArg some (by kernel_rfl))
 f316:=func266.trans (congrArg some (by kernel_rfl))
 f317:=func232.trans (congrArg some (by kernel_rfl))
 f318:=func233.trans (congrArg some (by kernel_rfl))
 f319:=func234.trans (congrArg some (by kernel_rfl))
 f320:=func235.trans (congrArg some (by kernel_rfl))
 f321:=func268.trans (congrArg some (by kernel_rfl))
 f322:=func269.trans (congrArg some (by kernel_rfl))
 f337:=func247.trans (congrArg some (by kernel_rfl))
 f338:=func248.trans (congrArg some (by kernel_rfl))
 t0:=underlying0
 a0:=isAgg0
 z0:=Tryz.sizeOf0
 v0:=Tryz.zeroValue0
 t2:=underlying2
 a2:=isAgg2
 z2:=Tryz.sizeOf2
 v2:=Tryz.zeroValue2
 t3:=underlying3
 a3:=isAgg3
 z3:=Tryz.sizeOf3
 v3:=Tryz.zeroValue3
 t4:=underlying4
 a4:=isAgg4
 z4:=Tryz.sizeOf4
 v4:=Tryz.zeroValue4
 t5:=underlying5
 a5:=isAgg5
 z5:=Tryz.sizeOf5
 v5:=Tryz.zeroValue5
 t9:=underlying9
 a9:=isAgg9
 z9:=Tryz.sizeOf9
 v9:=Tryz.zeroValue9
 t20:=underlying20
 a20:=isAgg20
 z20:=Tryz.sizeOf20
 v20:=Tryz.zeroValue20
 t21:=underlying21
 a21:=isAgg21
 z21:=Tryz.sizeOf21
 v21:=Tryz.zeroValue21
 t37:=underlying26
 a37:=isAgg26
 z37:=Tryz.sizeOf26
 v37:=Tryz.zeroValue26
 t46:=underlying143
 a46:=isAgg143
 z46:=Tryz.sizeOf143
 v46:=Tryz.zeroValue143
 t51:=underlying179
 a51:=isAgg179
 z51:=Tryz.sizeOf179
 v51:=Tryz.zeroValue179
 t53:=underlying181
 a53:=isAgg181
 z53:=Tryz.sizeOf181
 v53:=Tryz.zeroValue181
 t75:=underlying89
 a75:=isAgg89
 z75:=Tryz.sizeOf89
 v75:=Tryz.zeroValue89
 t76:=underlying91
 a76:=isAgg91
 z76:=Tryz.sizeOf91
 v76:=Tryz.zeroValue91
 t85:=underlying284
 a85:=isAgg284
 z85:=Tryz.sizeOf284
 v85:=Tryz.zeroValue284
 t127:=underlying121
 a127:=isAgg121
 z127:=Tryz.sizeOf121
 v127:=Tryz.zeroValue121
 t143:=underlying295
 a143:=isAgg295
 z143:=Tryz.sizeOf295
 v143:=Tryz.zeroValue295
 t145:=underlying297
 a145:=isAgg297
 z145:=Tryz.sizeOf297
 v145:=Tryz.zeroValue297
 t167:=underlying283
 a167:=isAgg283
 z167:=Tryz.sizeOf283
 v167:=Tryz.zeroValue283
 t168:=underlying286
 a168:=isAgg286
 z168:=Tryz.sizeOf286
 v168:=Tryz.zeroValue286
 t171:=underlying239
 a171:=isAgg239
 z171:=Tryz.sizeOf239
 v171:=Tryz.zeroValue239
 t173:=underlying241
 a173:=isAgg241
 z173:=Tryz.sizeOf241
 v173:=Tryz.zeroValue241
 t175:=underlying289
 a175:=isAgg289
 z175:=Tryz.sizeOf289
 v175:=Tryz.zeroValue289
 t210:=underlying292
 a210:=isAgg292
 z210:=Tryz.sizeOf292
 v210:=Tryz.zeroValue292
 t212:=underlying263
 a212:=isAgg263
 z212:=Tryz.sizeOf263
 v212:=Tryz.zeroValue263
 t213:=underlying264
 a213:=isAgg264
 z213:=Tryz.sizeOf264
 t232:=underlying280
 a232:=isAgg280
 z232:=Tryz.sizeOf280
 v232:=Tryz.zeroValue280
 t233:=underlying281
 a233:=isAgg281
 z233:=Tryz.sizeOf281
 v233:=Tryz.zeroValue281
 g15:=by kernel_rfl
 g16:=by kernel_rfl
 g17:=by kernel_rfl
 g18:=by kernel_rfl
 g19:=by kernel_rfl }
def Tryz.H5:Go.Shelf.Ren:=⟨fun | 171=>127 | 243=>175 | 246=>206 | 283=>221 | 284=>222 | 285=>223 | 286=>224 | 129=>171 | 317=>232 | 318=>233 | 319=>234 | 320=>235 | 337=>247 | 338=>248 | n=>n,fun | 3=>3 | 9=>9 | 2=>2 | 4=>4 | 171=>239 | 0=>0 | 53=>181 | 37=>26 | 5=>5 | 173=>241 | 212=>263 | 51=>179 | 20=>20 | 213=>264 | 46=>143 | 232=>280 | 233=>281 | n=>n,fun | 17=>3 | 18=>4 | 19=>5 | n=>n⟩
theorem Tryz.TK:Go.Proofs.LaysM.n171 prog Tryz.H5:={
 mixed:=by kernel_rfl
 f129:=func171.trans (congrArg some (by kernel_rfl))
 f171:=func127.trans (congrArg some (by kernel_rfl))
 f243:=func175.trans (congrArg some (by kernel_rfl))
 f246:=func206.trans (congrArg some (by kernel_rfl))
 f283:=func221.trans (congrArg some (by kernel_rfl))
 f284:=func222.trans (congrArg some (by kernel_rfl))
 f285:=func223.trans (congrArg some (by kernel_rfl))
 f286:=func224.trans (congrArg some (by kernel_rfl))
 f317:=func232.trans (congrArg some (by kernel_rfl))
 f318:=func233.trans (congrArg some (by kernel_rfl))
 f319:=func234.trans (congrArg some (by kernel_rfl))
 f320:=func235.trans (congrArg some (by kernel_rfl))
 f337:=func247.trans (congrArg some (by kernel_rfl))
 f338:=func248.trans (congrArg some (by kernel_rfl))
 t0:=underlying0
 a0:=isAgg0
 z0:=Tryz.sizeOf0
 v0:=Tryz.zeroValue0
 t2:=underlying2
 a2:=isAgg2
 z2:=Tryz.sizeOf2
 v2:=Tryz.zeroValue2
 t3:=underlying3
 a3:=isAgg3
 z3:=Tryz.sizeOf3
 v3:=Tryz.zeroValue3
 t4:=underlying4
 a4:=isAgg4
 z4:=Tryz.sizeOf4
 v4:=Tryz.zeroValue4
 t5:=underlying5
 a5:=isAgg5
 z5:=Tryz.sizeOf5
 v5:=Tryz.zeroValue5
 t9:=underlying9
 a9:=isAgg9
 z9:=Tryz.sizeOf9
 v9:=Tryz.zeroValue9
 t20:=underlying20
 a20:=isAgg20
 z20:=Tryz.sizeOf20
 v20:=Tryz.zeroValue20
 t37:=underlying26
 a37:=isAgg26
 z37:=Tryz.sizeOf26
 v37:=Tryz.zeroValue26
 t46:=underlying143
 a46:=isAgg143
 z46:=Tryz.sizeOf143
 v46:=Tryz.zeroValue143
 t51:=underlying179
 a51:=isAgg179
 z51:=Tryz.sizeOf179
 v51:=Tryz.zeroValue179
 t53:=underlying181
 a53:=isAgg181
 z53:=Tryz.sizeOf181
 v53:=Tryz.zeroValue181
 t171:=underlying239
 a171:=isAgg239
 z171:=Tryz.sizeOf239
 v171:=Tryz.zeroValue239
 t173:=underlying241
 a173:=isAgg241
 z173:=Tryz.sizeOf241
 v173:=Tryz.zeroValue241
 t212:=underlying263
 a212:=isAgg263
 z212:=Tryz.sizeOf263
 v212:=Tryz.zeroValue263
 t213:=underlying264
 a213:=isAgg264
 z213:=Tryz.sizeOf264
 t232:=underlying280
 a232:=isAgg280
 z232:=Tryz.sizeOf280
 v232:=Tryz.zeroValue280
 t233:=underlying281
 a233:=isAgg281
 z233:=Tryz.sizeOf281
 v233:=Tryz.zeroValue281
 g17:=by kernel_rfl
 g18:=by kernel_rfl
 g19:=by kernel_rfl
 i0:=by kernel_rfl
 i2:=by kernel_rfl
 i3:=by kernel_rfl
 i4:=by kernel_rfl
 i5:=by kernel_rfl
 i9:=by kernel_rfl
 i20:=by kernel_rfl
 i37:=by kernel_rfl
 i46:=by kernel_rfl
 i51:=by kernel_rfl
 i53:=by kernel_rfl
 i171:=by kernel_rfl
 i173:=by kernel_rfl
 i212:=by kernel_rfl
 i232:=by kernel_rfl
 i233:=by kernel_rfl
 m17:=by kernel_rfl
 m18:=by kernel_rfl
 m19:=by kernel_rfl }
def Tryz.KG:Go.Shelf.Ren:=⟨fun | 143=>89 | 219=>135 | 217=>109 | 225=>179 | 224=>180 | 267=>181 | 266=>148 | 314=>208 | n=>n,fun | 9=>9 | 3=>3 | 4=>4 | 5=>5 | 46=>143 | 146=>220 | 51=>179 | n=>n,fun | 1=>0 | n=>n⟩
theorem Tryz.XH:Go.Proofs.Lays.n143 prog Tryz.KG:={
 mixed:=by kernel_rfl
 f143:=func89.trans (congrArg some (by kernel_rfl))
 f217:=func109.trans (congrArg some (by kernel_rfl))
 f219:=func135.trans (congrArg some (by kernel_rfl))
 f224:=func180.trans (congrArg some (by kernel_rfl))
 f225:=func179.trans (congrArg some (by kernel_rfl))
 f266:=func148.trans (congrArg some (by kernel_rfl))
 f267:=func181.trans (congrArg some (by kernel_rfl))
 f314:=func208.trans (congrArg some (by kernel_rfl))
 t3:=underlying3
 a3:=isAgg3
 z3:=Tryz.sizeOf3
 v3:=Tryz.zeroValue3
 t4:=underlying4
 a4:=isAgg4
 z4:=Tryz.sizeOf4
 v4:=Tryz.zeroValue4
 t5:=underlying5
 a5:=isAgg5
 z5:=Tryz.sizeOf5
 v5:=Tryz.zeroValue5
 t9:=underlying9
 a9:=isAgg9
 z9:=Tryz.sizeOf9
 v9:=Tryz.zeroValue9
 t46:=underlying143
 a46:=isAgg143
 z46:=Tryz.sizeOf143
 v46:=Tryz.zeroValue143
 t51:=underlying179
 a51:=isAgg179
 z51:=Tryz.sizeOf179
 v51:=Tryz.zeroValue179
 t146:=underlying220
 a146:=isAgg220
 z146:=Tryz.sizeOf220
 v146:=Tryz.zeroValue220
 g1:=by kernel_rfl }
def Tryz.KF:Go.Shelf.Ren:=⟨fun | 145=>236 | 220=>249 | 219=>135 | 217=>109 | 225=>179 | 224=>180 | 267=>181 | 266=>148 | 314=>208 | n=>n,fun | 9=>9 | 4=>4 | 59=>265 | 3=>3 | 5=>5 | 46=>143 | 146=>220 | 51=>179 | n=>n,fun | 1=>0 | n=>n⟩
theorem Tryz.XG:Go.Proofs.Lays.n145 prog Tryz.KF:={
 mixed:=by kernel_rfl
 f145:=func236.trans (congrArg some (by kernel_rfl))
 f217:=func109.trans (congrArg some (by kernel_rfl))
 f219:=func135.trans (congrArg some (by kernel_rfl))
 f220:=func249.trans (congrArg some (by kernel_rfl))
 f224:=func180.trans (congrArg some (by kernel_rfl))
 f225:=func179.trans (congrArg some (by kernel_rfl))
 f266:=func148.trans (congrArg some (by kernel_rfl))
 f267:=func181.trans (congrArg some (by kernel_rfl))
 f314:=func208.trans (congrArg some (by kernel_rfl))
 t3:=underlying3
 a3:=isAgg3
 z3:=Tryz.sizeOf3
 v3:=Tryz.zeroValue3
 t4:=underlying4
 a4:=isAgg4
 z4:=Tryz.sizeOf4
 v4:=Tryz.zeroValue4
 t5:=underlying5
 a5:=isAgg5
 z5:=Tryz.sizeOf5
 v5:=Tryz.zeroValue5
 t9:=underlying9
 a9:=isAgg9
 z9:=Tryz.sizeOf9
 v9:=Tryz.zeroValue9
 t46:=underlying143
 a46:=isAgg143
 z46:=Tryz.sizeOf143
 v46:=Tryz.zeroValue143
 t51:=underlying179
 a51:=isAgg179
 z51:=Tryz.sizeOf179
 v51:=Tryz.zeroValue179
 t59:=underlying265
 a59:=isAgg265
 z59:=Tryz.sizeOf265
 v59:=Tryz.zeroValue265
 t146:=underlying220
 a146:=isAgg220
 z146:=Tryz.sizeOf220
 v146:=Tryz.zeroValue220
 g1:=by kernel_rfl }
def Tryz.KH:Go.Shelf.Ren:=⟨fun | 138=>297 | 195=>298 | 218=>299 | 143=>89 | 219=>135 | 217=>109 | 225=>179 | 224=>180 | 267=>181 | 266=>148 | 314=>208 | n=>n,fun | 9=>9 | 3=>3 | 4=>4 | 5=>5 | 0=>0 | 46=>143 | 146=>220 | 51=>179 | n=>n,fun | 1=>0 | n=>n⟩
theorem Tryz.XI:Go.Proofs.Lays.n138 prog Tryz.KH:={
 mixed:=by kernel_rfl
 f138:=func297.trans (congrArg some (by kernel_rfl))
 f143:=func89.trans (congrArg some (by kernel_rfl))
 f195:=func298.trans (congrArg some (by kernel_rfl))
 f217:=func109.trans (congrArg some (by kernel_rfl))
 f218:=func299.trans (congrArg some (by kernel_rfl))
 f219:=func135.trans (congrArg some (by kernel_rfl))
 f224:=func180.trans (congrArg some (by kernel_rfl))
 f225:=func179.trans (congrArg some (by kernel_rfl))
 f266:=func148.trans (congrArg some (by kernel_rfl))
 f267:=func181.trans (congrArg some (by kernel_rfl))
 f314:=func208.trans (congrArg some (by kernel_rfl))
 t0:=underlying0
 a0:=isAgg0
 z0:=Tryz.sizeOf0
 v0:=Tryz.zeroValue0
 t3:=underlying3
 a3:=isAgg3
 z3:=Tryz.sizeOf3
 v3:=Tryz.zeroValue3
 t4:=underlying4
 a4:=isAgg4
 z4:=Tryz.sizeOf4
 v4:=Tryz.zeroValue4
 t5:=underlying5
 a5:=isAgg5
 z5:=Tryz.sizeOf5
 v5:=Tryz.zeroValue5
 t9:=underlying9
 a9:=isAgg9
 z9:=Tryz.sizeOf9
 v9:=Tryz.zeroValue9
 t46:=underlying143
 a46:=isAgg143
 z46:=Tryz.sizeOf143
 v46:=Tryz.zeroValue143
 t51:=underlying179
 a51:=isAgg179
 z51:=Tryz.sizeOf179
 v51:=Tryz.zeroValue179
 t146:=underlying220
 a146:=isAgg220
 z146:=Tryz.sizeOf220
 v146:=Tryz.zeroValue220
 g1:=by kernel_rfl }
def Tryz.KA:Go.Shelf.Ren:=⟨fun | 189=>74 | 125=>120 | 257=>119 | 128=>170 | 129=>171 | 294=>161 | 295=>162 | 296=>163 | 297=>164 | 298=>165 | 299=>166 | 216=>167 | 300=>168 | 301=>169 | 328=>197 | 329=>198 | 330=>199 | 331=>200 | 332=>201 | 215=>202 | 343=>214 | n=>n,fun | 28=>46 | 3=>3 | 46=>143 | 0=>0 | 51=>179 | 53=>181 | 4=>4 | 183=>172 | 182=>171 | 131=>61 | 5=>5 | 9=>9 | 218=>211 | 222=>215 | 228=>223 | 229=>128 | n=>n,fun | n=>n⟩
theorem Tryz.Pn:Go.Proofs.Lays.n189 prog Tryz.KA:={
 mixed:=by kernel_rfl
 f125:=func120.trans (congrArg some (by kernel_rfl))
 f128:=func170.trans (congrArg some (by kernel_rfl))
 f129:=func171.trans (congrArg some (by kernel_rfl))
 f189:=func74.trans (congrArg some (by kernel_rfl))
 f215:=func202.trans (congrArg some (by kernel_rfl))
 f216:=func167.trans (congrArg some (by kernel_rfl))
 f257:=func119.trans (congrArg some (by kernel_rfl))
 f294:=func161.trans (congrArg some (by kernel_rfl))
 f295:=func162.trans (congrArg some (by kernel_rfl))
 f296:=func163.trans (congrArg some (by kernel_rfl))
 f297:=func164.trans (congrArg some (by kernel_rfl))
 f298:=func165.trans (congrArg some (by kernel_rfl))
 f299:=func166.trans (congrArg some (by kernel_rfl))
 f300:=func168.trans (congrArg some (by kernel_rfl))
 f301:=func169.trans (congrArg some (by kernel_rfl))
 f328:=func197.trans (congrArg some (by kernel_rfl))
 f329:=func198.trans (congrArg some (by kernel_rfl))
 f330:=func199.trans (congrArg some (by kernel_rfl))
 f331:=func200.trans (congrArg some (by kernel_rfl))
 f332:=func201.trans (congrArg some (by kernel_rfl))
 f343:=func214.trans (congrArg some (by kernel_rfl))
 t0:=underlying0
 a0:=isAgg0
 z0:=Tryz.sizeOf0
 v0:=Tryz.zeroValue0
 t3:=underlying3
 a3:=isAgg3
 z3:=Tryz.sizeOf3
 v3:=Tryz.zeroValue3
 t4:=underlying4
 a4:=isAgg4
 z4:=Tryz.sizeOf4
 v4:=Tryz.zeroValue4
 t5:=underlying5
 a5:=isAgg5
 z5:=Tryz.sizeOf5
 v5:=Tryz.zeroValue5
 t9:=underlying9
 a9:=isAgg9
 z9:=Tryz.sizeOf9
 v9:=Tryz.zeroValue9
 t28:=underlying46
 a28:=isAgg46
 z28:=Tryz.sizeOf46
 v28:=Tryz.zeroValue46
 t46:=underlying143
 a46:=isAgg143
 z46:=Tryz.sizeOf143
 v46:=Tryz.zeroValue143
 t51:=underlying179
 a51:=isAgg179
 z51:=Tryz.sizeOf179
 v51:=Tryz.zeroValue179
 t53:=underlying181
 a53:=isAgg181
 z53:=Tryz.sizeOf181
 v53:=Tryz.zeroValue181
 t131:=underlying61
 a131:=isAgg61
 z131:=Tryz.sizeOf61
 v131:=Tryz.zeroValue61
 t182:=underlying171
 a182:=isAgg171
 z182:=Tryz.sizeOf171
 v182:=Tryz.zeroValue171
 t183:=underlying172
 a183:=isAgg172
 z183:=Tryz.sizeOf172
 v183:=Tryz.zeroValue172
 t218:=underlying211
 a218:=isAgg211
 z218:=Tryz.sizeOf211
 v218:=Tryz.zeroValue211
 t222:=underlying215
 a222:=isAgg215
 z222:=Tryz.sizeOf215
 v222:=Tryz.zeroValue215
 t228:=underlying223
 a228:=isAgg223
 z228:=Tryz.sizeOf223
 v228:=Tryz.zeroValue223
 t229:=underlying128
 a229:=isAgg128
 z229:=Tryz.sizeOf128
 v229:=Tryz.zeroValue128 }
def Tryz.KE:Go.Shelf.Ren:=⟨fun | 151=>153 | 152=>196 | 137=>65 | 119=>213 | 224=>180 | 225=>179 | 217=>109 | 266=>148 | n=>n,fun | 9=>9 | 21=>21 | 4=>4 | 3=>3 | 5=>5 | 0=>0 | 46=>143 | n=>n,fun | n=>n⟩
theorem Tryz.Pp:Go.Proofs.Lays.n151 prog Tryz.KE:={
 mixed:=by kernel_rfl
 f119:=func213.trans (congrArg some (by kernel_rfl))
 f137:=func65.trans (congrArg some (by kernel_rfl))
 f151:=func153.trans (congrArg some (by kernel_rfl))
 f152:=func196.trans (congrArg some (by kernel_rfl))
 f217:=func109.trans (congrArg some (by kernel_rfl))
 f224:=func180.trans (congrArg some (by kernel_rfl))
 f225:=func179.trans (congrArg some (by kernel_rfl))
 f266:=func148.trans (congrArg some (by kernel_rfl))
 t0:=underlying0
 a0:=isAgg0
 z0:=Tryz.sizeOf0
 v0:=Tryz.zeroValue0
 t3:=underlying3
 a3:=isAgg3
 z3:=Tryz.sizeOf3
 v3:=Tryz.zeroValue3
 t4:=underlying4
 a4:=isAgg4
 z4:=Tryz.sizeOf4
 v4:=Tryz.zeroValue4
 t5:=underlying5
 a5:=isAgg5
 z5:=Tryz.sizeOf5
 v5:=Tryz.zeroValue5
 t9:=underlying9
 a9:=isAgg9
 z9:=Tryz.sizeOf9
 v9:=Tryz.zeroValue9
 t21:=underlying21
 a21:=isAgg21
 z21:=Tryz.sizeOf21
 v21:=Tryz.zeroValue21
 t46:=underlying143
 a46:=isAgg143
 z46:=Tryz.sizeOf143
 v46:=Tryz.zeroValue143 }
def Tryz.Kz:Go.Shelf.Ren:=⟨fun | 227=>131 | n=>n,fun | 9=>9 | 116=>153 | 4=>4 | 0=>0 | 3=>3 | 5=>5 | n=>n,fun | n=>n⟩
theorem Tryz.XD:Go.Proofs.Lays.n227 prog Tryz.Kz:={
 mixed:=by kernel_rfl
 f227:=func131.trans (congrArg some (by kernel_rfl))
 t0:=underlying0
 a0:=isAgg0
 z0:=Tryz.sizeOf0
 v0:=Tryz.zeroValue0
 t3:=underlying3
 a3:=isAgg3
 z3:=Tryz.sizeOf3
 v3:=Tryz.zeroValue3
 t4:=underlying4
 a4:=isAgg4
 z4:=Tryz.sizeOf4
 v4:=Tryz.zeroValue4
 t5:=underlying5
 a5:=isAgg5
 z5:=Tryz.sizeOf5
 v5:=Tryz.zeroValue5
 t9:=underlying9
 a9:=isAgg9
 z9:=Tryz.sizeOf9
 v9:=Tryz.zeroValue9
 t116:=underlying153
 a116:=isAgg153
 z116:=Tryz.sizeOf153 }
def Tryz.Ky:Go.Shelf.Ren:=⟨fun | 228=>177 | n=>n,fun | 124=>157 | 5=>5 | 4=>4 | 0=>0 | 116=>153 | n=>n,fun | n=>n⟩
theorem Tryz.XC:Go.Proofs.Lays.n228 prog Tryz.Ky:={
 mixed:=by kernel_rfl
 f228:=func177.trans (congrArg some (by kernel_rfl))
 t0:=underlying0
 a0:=isAgg0
 z0:=Tryz.sizeOf0
 v0:=Tryz.zeroValue0
 t4:=underlying4
 a4:=isAgg4
 z4:=Tryz.sizeOf4
 v4:=Tryz.zeroValue4
 t5:=underlying5
 a5:=isAgg5
 z5:=Tryz.sizeOf5
 v5:=Tryz.zeroValue5
 t116:=underlying153
 a116:=isAgg153
 z116:=Tryz.sizeOf153
 t124:=underlying157
 a124:=isAgg157
 z124:=Tryz.sizeOf157
 v124:=Tryz.zeroValue157 }
def Tryz.Kw:Go.Shelf.Ren:=⟨fun | 229=>151 | n=>n,fun | 9=>9 | 40=>167 | 31=>84 | 152=>207 | 3=>3 | 0=>0 | 4=>4 | 21=>21 | 154=>209 | n=>n,fun | n=>n⟩
theorem Tryz.Pm:Go.Proofs.Lays.n229 prog Tryz.Kw:={
 mixed:=by kernel_rfl
 f229:=func151.trans (congrArg some (by kernel_rfl))
 t0:=underlying0
 a0:=isAgg0
 z0:=Tryz.sizeOf0
 v0:=Tryz.zeroValue0
 t3:=underlying3
 a3:=isAgg3
 z3:=Tryz.sizeOf3
 v3:=Tryz.zeroValue3
 t4:=underlying4
 a4:=isAgg4
 z4:=Tryz.sizeOf4
 v4:=Tryz.zeroValue4
 t9:=underlying9
 a9:=isAgg9
 z9:=Tryz.sizeOf9
 v9:=Tryz.zeroValue9
 t21:=underlying21
 a21:=isAgg21
 z21:=Tryz.sizeOf21
 v21:=Tryz.zeroValue21
 t31:=underlying84
 a31:=isAgg84
 z31:=Tryz.sizeOf84
 v31:=Tryz.zeroValue84
 t40:=underlying167
 a40:=isAgg167
 z40:=Tryz.sizeOf167
 v40:=Tryz.zeroValue167
 t152:=underlying207
 a152:=isAgg207
 z152:=Tryz.sizeOf207
 v152:=Tryz.zeroValue207
 t154:=underlying209
 a154:=isAgg209
 z154:=Tryz.sizeOf209
 v154:=Tryz.zeroValue209 }
def Tryz.Ey:Go.Shelf.Ren:=⟨fun | 20=>75 | n=>n,fun | 22=>46 | 3=>3 | 4=>4 | 0=>0 | n=>n,fun | n=>n⟩
theorem Tryz.FD:Go.Proofs.Lays2.n20 prog Tryz.Ey:={
 mixed:=by kernel_rfl
 f20:=func75.trans (congrArg some (by kernel_rfl))
 t0:=underlying0
 a0:=isAgg0
 z0:=Tryz.sizeOf0
 v0:=Tryz.zeroValue0
 t3:=underlying3
 a3:=isAgg3
 z3:=Tryz.sizeOf3
 v3:=Tryz.zeroValue3
 t4:=underlying4
 a4:=isAgg4
 z4:=Tryz.sizeOf4
 v4:=Tryz.zeroValue4
 t22:=underlying46
 a22:=isAgg46
 z22:=Tryz.sizeOf46
 v22:=Tryz.zeroValue46
 i3:=by kernel_rfl }
theorem Tryz.qh:Builder.Extra prog Tryz.Ah:={
 sizeBuilder:=by kernel_rfl
 liesBuilder:=by kernel_rfl
 t5:=underlying5
 a5:=isAgg5
 z5:=Tryz.sizeOf5
 v5:=Tryz.zeroValue5
 infoByte:=by kernel_rfl
 cellsByte:=by kernel_rfl
 sizeByte:=by kernel_rfl
 neB5:=by decide }
open Go.RowKit in
theorem Tryz.strings_Join_none (a:Option Addr) (c:Nat) (sep:ByteArray) (w:World) :
  Calls prog 51 #[.slice a 0 c,.string sep] w fun e w'=>e=.returned (.string ⟨#[]⟩)∧w'=w:=Any.strings_Join_none Tryz.Po Tryz.qh a c sep w
open Go.RowKit in
theorem Tryz.strings_Join (bk o c:Nat) (xs:List ByteArray) (sep:ByteArray) (w:World) (hcells:∀ (j:Nat) x,xs[j]? = some x→w.cell? ⟨bk,o+j,none⟩=some (.string x)) (hbk:bk<w.heap.size) (hN:xs.length≤140737488355328) (hcap:xs.length≤c) (hlen:(Lib.join (xs.map (·.data.toList)) sep.data.toList).length≤140737488355328) :
  Calls prog 51 #[.slice (some ⟨bk,o,none⟩) xs.length c,.string sep] w fun e w'=>e=.returned (.string ⟨(Lib.join (xs.map (·.data.toList)) sep.data.toList).toArray⟩)∧Below w.heap.size w w':=Any.strings_Join Tryz.Po Tryz.qh bk o c xs sep w hcells hbk hN hcap hlen
open Go.RowKit in
theorem Tryz.strings_IndexByte (s:ByteArray) (c:Int) (w:World) :
  Calls prog 65 #[.string s,.int .u8 c] w fun e w'=>e=.returned (.int .i64 (Lib.indexByte s.data.toList c.toNat.toUInt8))∧w'=w:=Any.strings_IndexByte Tryz.XJ s c w
open Go.RowKit in
theorem Tryz.strconv_Atoi (s:ByteArray) (n:Int) (hl:s.size≤18) (h:Lib.atoi s.data.toList=some n) (w:World) :
  Calls prog 250 #[.string s] w fun e w'=>e=.returned (.tuple #[.int .i64 n,.nilIface])∧∃ t,w'=Lib.bytesWorld w 5 t:=Any.strconv_Atoi Tryz.XE s n hl h w
open Go.RowKit Go.Sort Go.Lib in
theorem Tryz.strconv_Itoa (n : Int) (h0 : -9223372036854775808 ≤ n) (h1 : n ≤ 9223372036854775807) (w : World) (htab : Lib.TabIs prog w "internal/strconv.uint64pow10" .u64 Lib.pow10Tab) :
  Calls prog 127 #[.int .i64 n] w fun e w'=>e=.returned (.string ⟨(Lib.itoa n).toArray⟩)∧∃ k os,w'=grow (w.drewN k) os:=Any.strconv_Itoa Tryz.TK n h0 h1 w htab
open Go.RowKit Go.Lib in
theorem Tryz.strings_Index (s sub:ByteArray) (m:Int) (w:World) (hs:s.size<4294967281) (hm:w.cell? ⟨0,0,none⟩=some (.int .i64 m)) :
  Calls prog 89 #[.string s,.string sub] w fun e w'=>e=.returned (.int .i64 (Lib.index s.data.toList sub.data.toList))∧w'=w:=Any.strings_Index Tryz.XH s sub m w hs hm
open Go.RowKit Go.Lib in
theorem Tryz.strings_Cut (s sep:ByteArray) (m:Int) (w:World) (hs:s.size<4294967281) (hm:w.cell? ⟨0,0,none⟩=some (.int .i64 m)) :
  Calls prog 236 #[.string s,.string sep] w fun e w'=>e=.returned (.tuple #[.string ⟨(Lib.cut s.data.toList sep.data.toList).1.toArray⟩,.string ⟨(Lib.cut s.data.toList sep.data.toList).2.1.toArray⟩,.bool (Lib.cut s.data.toList sep.data.toList).2.2])∧∃ n,w'=w.drewN n:=Any.strings_Cut Tryz.XG s sep m w hs hm
open Go.RowKit Go.Lib in
theorem Tryz.strings_Count_one (s:ByteArray) (c:UInt8) (w:World) :
  Calls prog 297 #[.string s,.string ⟨#[c]⟩] w fun e w'=>e=.returned (.int .i64 (Lib.countByte s.data.toList c))∧w'=w:=Any.strings_Count_one Tryz.XI s c w
open Go.Sort Go.RowKit in
theorem Tryz.slices_Sort_int (blk off cap:Nat) (zs:List Int) (w:World) (hH:Holds (Value.int .i64) w blk off zs.toArray) (hblk:blk<w.heap.size) (hsz:zs.length<4611686018427387904) :
  Calls prog 74 #[.slice (some ⟨blk,off,none⟩) zs.length cap] w fun e w' =>
   e=.returned (.tuple #[])∧∃ n os,w'=grow (putRow (Value.int .i64) (Sort.ahead w n) blk off (zs.mergeSort fun x y=>decide (x≤y)).toArray) os:=Any.slices_Sort_int Tryz.Pn blk off cap zs w hH hblk hsz
open Go.RowKit Go.Lib in
theorem Tryz.strings_ContainsRune_ascii (s:ByteArray) (r:Int) (w:World) (h0:0≤r) (h1:r<128) :
  Calls prog 153 #[.string s,.int .i32 r] w fun e w'=>e=.returned (.bool (decide (0≤Lib.indexByte s.data.toList r.toNat.toUInt8)))∧w'=w:=Any.strings_ContainsRune_ascii Tryz.Pp s r w h0 h1
open Go.RowKit Go.Lib in
theorem Tryz.strings_makeASCIISet (hv116:∀ w,(zeroValue 153).run prog w=.ok (.agg (Array.replicate 256 (.bool false))) w) (chars:ByteArray) (w:World) (hs:chars.size<4294967281) (hascii:∀ (j:Nat) b,chars.data.toList[j]? = some b→b.toNat<128) :
  Calls prog 131 #[.string chars] w fun e w'=>e=.returned (.tuple #[.agg (Lib.setCells chars.data.toList),.bool true])∧w'=w.alloc (.cells (Lib.setCells chars.data.toList) 153):=Any.strings_makeASCIISet Tryz.XD hv116 (by kernel_rfl) chars w hs hascii
open Go.RowKit Go.Lib in
theorem Tryz.asciiSet_contains (b:Nat) (x:UInt8) (v:Bool) (w:World) (hc:w.cell? ⟨b,x.toNat,none⟩=some (.bool v)) :
  Calls prog 177 #[.pointer (some ⟨b,0,none⟩),.int .u8 x.toNat] w fun e w'=>e=.returned (.bool v)∧w'=w:=Any.asciiSet_contains Tryz.XC b x v w hc
open Go.RowKit Go.Lib in
theorem Tryz.strings_FieldsFunc_runes (g:Nat) (lb:Array Value) (eg:∀ args w,(callFunc g args).run prog w=.ok (.enter g args) w) (p:Nat→Bool) (s:ByteArray) (w:World) (hs:s.size≤4294967296) (hp:PredAtRunes prog g lb p w) :
  Calls prog 151 #[.string s,.func (.func g) #[] lb] w fun e w'=>∃ A,e=.returned (.slice (some ⟨A,0,none⟩) (Lib.goFieldsP p s).length (Lib.goFieldsP p s).length)∧w.heap.size≤A ∧
   w'.ownsRow w.heap.size 9 1 (.slice (some ⟨A,0,none⟩) (Lib.goFieldsP p s).length (Lib.goFieldsP p s).length) (Lib.goFieldsP p s).length ((Lib.goFieldsP p s).map Value.string)∧Below w.heap.size w w':=Any.strings_FieldsFunc_runes Tryz.Pm g lb eg p s w hs hp (by kernel_rfl) (by kernel_rfl)
open Go.RowKit Go.Lib Go.Sort in
theorem Tryz.slices_Compact_int (blk off cap:Nat) (zs:List Int) (w:World) (hH:Holds (Value.int .i64) w blk off zs.toArray) (hsz:zs.length≤9223372036854775807) (hcap:zs.length≤cap) :
  Calls prog 75 #[.slice (some ⟨blk,off,none⟩) zs.length cap] w fun e w'=>e=.returned (.slice (some ⟨blk,off,none⟩) (Lib.compact zs).length cap)∧∃ q,w'=putRow (Value.int .i64) (Sort.ahead w q) blk off (Lib.compact zs++List.replicate (zs.length - (Lib.compact zs).length) 0).toArray:=Any.slices_Compact_int Tryz.FD blk off cap zs w hH hsz hcap
open Go.RowKit Go.Lib Go.Sort in
theorem Tryz.slices_Compact_int_empty (a:Option Addr) (cap:Nat) (w:World) :
  Calls prog 75 #[.slice a 0 cap] w fun e w'=>e=.returned (.slice a 0 cap)∧w'=w:=Any.slices_Compact_int_empty Tryz.FD a cap w
open Go.RowKit Go.Sort in
theorem Tryz.slices_Sort_int_none (p:Option Addr) (cap:Nat) (w:World) :
  Calls prog 74 #[.slice p 0 cap] w fun e w'=>e=.returned (.tuple #[])∧w'=w:=Any.slices_Sort_int_none Tryz.Pn p cap w
end Go.Proofs

