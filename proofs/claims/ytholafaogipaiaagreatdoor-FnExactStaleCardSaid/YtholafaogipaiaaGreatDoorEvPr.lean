/- Conditions: none. -/
import Derived.Test.YtholafaogipaiaaGreatDoorEvFi
import Derived.Test.YtholafaogipaiaaGreatDoorEvLaw
import Derived.Lib.Strings
import Derived.Lib.Slices
import Derived.Lib.Walk
import Derived.Test.YtholafaogipaiaaGreatDoorEvBld
import Derived.Shelf.Strings.Builder1
import Derived.Shelf.Strings.BuilderK
import Derived.Lib.Bytealg
import Derived.KernelRfl
import Derived.Shelf.Strconv.Itoa3
import Derived.Shelf.Strings.Count
import Derived.Shelf.Strings.OnBuilder
import Derived.Shelf.Strings.Search3
import Derived.Shelf.Strings.Shaped
import Derived.Shelf.Strings.Trim
import Derived.Test.YtholafaogipaiaaGreatDoorEvSort
import Derived.Test.YtholafaogipaiaaGreatDoorEvNum
import Derived.Test.YtholafaogipaiaaGreatDoorEvStr
import Derived.Test.YtholafaogipaiaaGreatDoorEvJoin
namespace Go.Proofs
set_option maxHeartbeats 1000000
set_option maxRecDepth 100000
open Go.Shelf
def Tryz.lays156_ren:Go.Shelf.Ren:=⟨fun | 156=>244 | 165=>285 | 166=>194 | 169=>195 | 240=>246 | 241=>317 | 276=>287 | 277=>339 | n=>n,fun | 31=>46 | 9=>9 | 3=>3 | 4=>4 | 0=>0 | 20=>20 | 72=>215 | 76=>218 | 70=>213 | 37=>53 | 75=>217 | 127=>262 | 164=>284 | 5=>5 | 80=>220 | n=>n,fun | n=>n⟩
theorem Tryz.lays156:Go.Proofs.Lays.n156 Tryz.prog Tryz.lays156_ren:={
 mixed:=by kernel_rfl
 f156:=Tryz.func244.trans (congrArg some (by kernel_rfl))
 f165:=Tryz.func285.trans (congrArg some (by kernel_rfl))
 f166:=Tryz.func194.trans (congrArg some (by kernel_rfl))
 f169:=Tryz.func195.trans (congrArg some (by kernel_rfl))
 f240:=Tryz.func246.trans (congrArg some (by kernel_rfl))
 f241:=Tryz.func317.trans (congrArg some (by kernel_rfl))
 f276:=Tryz.func287.trans (congrArg some (by kernel_rfl))
 f277:=Tryz.func339.trans (congrArg some (by kernel_rfl))
 t0:=Tryz.underlying0
 a0:=Tryz.isAgg0
 z0:=Tryz.sizeOf0
 v0:=Tryz.zeroValue0
 t3:=Tryz.underlying3
 a3:=Tryz.isAgg3
 z3:=Tryz.sizeOf3
 v3:=Tryz.zeroValue3
 t4:=Tryz.underlying4
 a4:=Tryz.isAgg4
 z4:=Tryz.sizeOf4
 v4:=Tryz.zeroValue4
 t9:=Tryz.underlying9
 a9:=Tryz.isAgg9
 z9:=Tryz.sizeOf9
 v9:=Tryz.zeroValue9
 t20:=Tryz.underlying20
 a20:=Tryz.isAgg20
 z20:=Tryz.sizeOf20
 v20:=Tryz.zeroValue20
 t31:=Tryz.underlying46
 a31:=Tryz.isAgg46
 z31:=Tryz.sizeOf46
 v31:=Tryz.zeroValue46
 t37:=Tryz.underlying53
 a37:=Tryz.isAgg53
 z37:=Tryz.sizeOf53
 v37:=Tryz.zeroValue53
 t70:=Tryz.underlying213
 a70:=Tryz.isAgg213
 z70:=Tryz.sizeOf213
 v70:=Tryz.zeroValue213
 t72:=Tryz.underlying215
 a72:=Tryz.isAgg215
 z72:=Tryz.sizeOf215
 v72:=Tryz.zeroValue215
 t75:=Tryz.underlying217
 a75:=Tryz.isAgg217
 z75:=Tryz.sizeOf217
 v75:=Tryz.zeroValue217
 t76:=Tryz.underlying218
 a76:=Tryz.isAgg218
 z76:=Tryz.sizeOf218
 v76:=Tryz.zeroValue218
 t127:=Tryz.underlying262
 a127:=Tryz.isAgg262
 z127:=Tryz.sizeOf262
 v127:=Tryz.zeroValue262
 t164:=Tryz.underlying284
 a164:=Tryz.isAgg284
 z164:=Tryz.sizeOf284
 v164:=Tryz.zeroValue284}
theorem Tryz.Builder_Extra_156:Builder.Extra Tryz.prog Tryz.lays156_ren:={
 sizeBuilder:=by kernel_rfl
 liesBuilder:=by kernel_rfl
 t5:=Tryz.underlying5
 a5:=Tryz.isAgg5
 z5:=Tryz.sizeOf5
 v5:=Tryz.zeroValue5
 infoByte:=by kernel_rfl
 cellsByte:=by kernel_rfl
 sizeByte:=by kernel_rfl
 neB5:=by decide}
open Go.RowKit in
theorem Tryz.strings_Join_none (a:Option Addr)(c:Nat)(sep:ByteArray)(w:World):
  Calls Tryz.prog 244 #[.slice a 0 c,.string sep] w fun e w'=>e=.returned (.string ⟨#[]⟩)∧w'=w:=Any.strings_Join_none Tryz.lays156 Tryz.Builder_Extra_156 a c sep w
open Go.RowKit in
theorem Tryz.strings_Join (bk o c:Nat)(xs:List ByteArray)(sep:ByteArray)(w:World)(hcells:∀ (j:Nat) x,xs[j]?=some x→w.cell? ⟨bk,o+j,none⟩=some (.string x))(hbk:bk < w.heap.size)(hN:xs.length≤140737488355328)(hcap:xs.length≤c)(hlen:(Lib.join (xs.map (·.data.toList)) sep.data.toList).length≤140737488355328):
  Calls Tryz.prog 244 #[.slice (some ⟨bk,o,none⟩) xs.length c,.string sep] w fun e w'=>e=.returned (.string ⟨(Lib.join (xs.map (·.data.toList)) sep.data.toList).toArray⟩)∧Below w.heap.size w w':=Any.strings_Join Tryz.lays156 Tryz.Builder_Extra_156 bk o c xs sep w hcells hbk hN hcap hlen
def Tryz.lays160_ren:Go.Shelf.Ren:=⟨fun | 160=>276 | 232=>305 | 231=>304 | 227=>306 | 234=>308 | 233=>307 | 236=>310 | 235=>309 | 228=>328 | 271=>330 | 151=>329 | 197=>289 | 120=>342 | 152=>341 | 260=>318 | 137=>340 | 119=>349 | 224=>282 | 225=>281 | 217=>280 | 266=>314 | n=>n,fun | 9=>9 | 4=>4 | 3=>3 | 5=>5 | 117=>301 | 116=>300 | 0=>0 | 124=>304 | 21=>21 | 105=>287 | 46=>249 | 119=>327 | 139=>330 | 138=>329 | n=>n,fun | 3=>1 | 4=>2 | n=>n⟩
theorem Tryz.lays160:Go.Proofs.Lays.n160 Tryz.prog Tryz.lays160_ren:={
 mixed:=by kernel_rfl
 f119:=Tryz.func349.trans (congrArg some (by kernel_rfl))
 f120:=Tryz.func342.trans (congrArg some (by kernel_rfl))
 f137:=Tryz.func340.trans (congrArg some (by kernel_rfl))
 f151:=Tryz.func329.trans (congrArg some (by kernel_rfl))
 f152:=Tryz.func341.trans (congrArg some (by kernel_rfl))
 f160:=Tryz.func276.trans (congrArg some (by kernel_rfl))
 f197:=Tryz.func289.trans (congrArg some (by kernel_rfl))
 f217:=Tryz.func280.trans (congrArg some (by kernel_rfl))
 f224:=Tryz.func282.trans (congrArg some (by kernel_rfl))
 f225:=Tryz.func281.trans (congrArg some (by kernel_rfl))
 f227:=Tryz.func306.trans (congrArg some (by kernel_rfl))
 f228:=Tryz.func328.trans (congrArg some (by kernel_rfl))
 f231:=Tryz.func304.trans (congrArg some (by kernel_rfl))
 f232:=Tryz.func305.trans (congrArg some (by kernel_rfl))
 f233:=Tryz.func307.trans (congrArg some (by kernel_rfl))
 f234:=Tryz.func308.trans (congrArg some (by kernel_rfl))
 f235:=Tryz.func309.trans (congrArg some (by kernel_rfl))
 f236:=Tryz.func310.trans (congrArg some (by kernel_rfl))
 f260:=Tryz.func318.trans (congrArg some (by kernel_rfl))
 f266:=Tryz.func314.trans (congrArg some (by kernel_rfl))
 f271:=Tryz.func330.trans (congrArg some (by kernel_rfl))
 t0:=Tryz.underlying0
 a0:=Tryz.isAgg0
 z0:=Tryz.sizeOf0
 v0:=Tryz.zeroValue0
 t3:=Tryz.underlying3
 a3:=Tryz.isAgg3
 z3:=Tryz.sizeOf3
 v3:=Tryz.zeroValue3
 t4:=Tryz.underlying4
 a4:=Tryz.isAgg4
 z4:=Tryz.sizeOf4
 v4:=Tryz.zeroValue4
 t5:=Tryz.underlying5
 a5:=Tryz.isAgg5
 z5:=Tryz.sizeOf5
 v5:=Tryz.zeroValue5
 t9:=Tryz.underlying9
 a9:=Tryz.isAgg9
 z9:=Tryz.sizeOf9
 v9:=Tryz.zeroValue9
 t21:=Tryz.underlying21
 a21:=Tryz.isAgg21
 z21:=Tryz.sizeOf21
 v21:=Tryz.zeroValue21
 t46:=Tryz.underlying249
 a46:=Tryz.isAgg249
 z46:=Tryz.sizeOf249
 v46:=Tryz.zeroValue249
 t105:=Tryz.underlying287
 a105:=Tryz.isAgg287
 z105:=Tryz.sizeOf287
 v105:=Tryz.zeroValue287
 t116:=Tryz.underlying300
 a116:=Tryz.isAgg300
 z116:=Tryz.sizeOf300
 t117:=Tryz.underlying301
 a117:=Tryz.isAgg301
 z117:=Tryz.sizeOf301
 v117:=Tryz.zeroValue301
 t119:=Tryz.underlying327
 a119:=Tryz.isAgg327
 z119:=Tryz.sizeOf327
 t124:=Tryz.underlying304
 a124:=Tryz.isAgg304
 z124:=Tryz.sizeOf304
 v124:=Tryz.zeroValue304
 t138:=Tryz.underlying329
 a138:=Tryz.isAgg329
 z138:=Tryz.sizeOf329
 v138:=Tryz.zeroValue329
 t139:=Tryz.underlying330
 a139:=Tryz.isAgg330
 z139:=Tryz.sizeOf330
 v139:=Tryz.zeroValue330
 g3:=by kernel_rfl
 g4:=by kernel_rfl}
open Go.RowKit in
theorem Tryz.strings_Trim_one (s:ByteArray)(c:UInt8)(hc:c.toNat < 128)(w:World)(hs:s.size≤9223372036854775807):
  Calls Tryz.prog 276 #[.string s,.string ⟨#[c]⟩] w fun e w'=>e=.returned (.string ⟨(Lib.trimB s.data.toList c).toArray⟩)∧(w'=w∨w'=w.drew):=Any.strings_Trim_one Tryz.lays160 s c hc w hs
def Tryz.laysM171_ren:Go.Shelf.Ren:=⟨fun | 171=>284 | 243=>316 | 246=>338 | 283=>345 | 284=>346 | 285=>347 | 286=>348 | 129=>273 | 317=>350 | 318=>351 | 319=>352 | 320=>353 | 337=>354 | 338=>355 | n=>n,fun | 3=>3 | 9=>9 | 2=>2 | 4=>4 | 171=>333 | 0=>0 | 53=>280 | 37=>53 | 5=>5 | 173=>335 | 212=>339 | 51=>278 | 20=>20 | 213=>340 | 46=>249 | 232=>341 | 233=>342 | n=>n,fun | 17=>3 | 18=>4 | 19=>5 | n=>n⟩
theorem Tryz.laysM171:Go.Proofs.LaysM.n171 Tryz.prog Tryz.laysM171_ren:={
 mixed:=by kernel_rfl
 f129:=Tryz.func273.trans (congrArg some (by kernel_rfl))
 f171:=Tryz.func284.trans (congrArg some (by kernel_rfl))
 f243:=Tryz.func316.trans (congrArg some (by kernel_rfl))
 f246:=Tryz.func338.trans (congrArg some (by kernel_rfl))
 f283:=Tryz.func345.trans (congrArg some (by kernel_rfl))
 f284:=Tryz.func346.trans (congrArg some (by kernel_rfl))
 f285:=Tryz.func347.trans (congrArg some (by kernel_rfl))
 f286:=Tryz.func348.trans (congrArg some (by kernel_rfl))
 f317:=Tryz.func350.trans (congrArg some (by kernel_rfl))
 f318:=Tryz.func351.trans (congrArg some (by kernel_rfl))
 f319:=Tryz.func352.trans (congrArg some (by kernel_rfl))
 f320:=Tryz.func353.trans (congrArg some (by kernel_rfl))
 f337:=Tryz.func354.trans (congrArg some (by kernel_rfl))
 f338:=Tryz.func355.trans (congrArg some (by kernel_rfl))
 t0:=Tryz.underlying0
 a0:=Tryz.isAgg0
 z0:=Tryz.sizeOf0
 v0:=Tryz.zeroValue0
 t2:=Tryz.underlying2
 a2:=Tryz.isAgg2
 z2:=Tryz.sizeOf2
 v2:=Tryz.zeroValue2
 t3:=Tryz.underlying3
 a3:=Tryz.isAgg3
 z3:=Tryz.sizeOf3
 v3:=Tryz.zeroValue3
 t4:=Tryz.underlying4
 a4:=Tryz.isAgg4
 z4:=Tryz.sizeOf4
 v4:=Tryz.zeroValue4
 t5:=Tryz.underlying5
 a5:=Tryz.isAgg5
 z5:=Tryz.sizeOf5
 v5:=Tryz.zeroValue5
 t9:=Tryz.underlying9
 a9:=Tryz.isAgg9
 z9:=Tryz.sizeOf9
 v9:=Tryz.zeroValue9
 t20:=Tryz.underlying20
 a20:=Tryz.isAgg20
 z20:=Tryz.sizeOf20
 v20:=Tryz.zeroValue20
 t37:=Tryz.underlying53
 a37:=Tryz.isAgg53
 z37:=Tryz.sizeOf53
 v37:=Tryz.zeroValue53
 t46:=Tryz.underlying249
 a46:=Tryz.isAgg249
 z46:=Tryz.sizeOf249
 v46:=Tryz.zeroValue249
 t51:=Tryz.underlying278
 a51:=Tryz.isAgg278
 z51:=Tryz.sizeOf278
 v51:=Tryz.zeroValue278
 t53:=Tryz.underlying280
 a53:=Tryz.isAgg280
 z53:=Tryz.sizeOf280
 v53:=Tryz.zeroValue280
 t171:=Tryz.underlying333
 a171:=Tryz.isAgg333
 z171:=Tryz.sizeOf333
 v171:=Tryz.zeroValue333
 t173:=Tryz.underlying335
 a173:=Tryz.isAgg335
 z173:=Tryz.sizeOf335
 v173:=Tryz.zeroValue335
 t212:=Tryz.underlying339
 a212:=Tryz.isAgg339
 z212:=Tryz.sizeOf339
 v212:=Tryz.zeroValue339
 t213:=Tryz.underlying340
 a213:=Tryz.isAgg340
 z213:=Tryz.sizeOf340
 t232:=Tryz.underlying341
 a232:=Tryz.isAgg341
 z232:=Tryz.sizeOf341
 v232:=Tryz.zeroValue341
 t233:=Tryz.underlying342
 a233:=Tryz.isAgg342
 z233:=Tryz.sizeOf342
 v233:=Tryz.zeroValue342
 g17:=by kernel_rfl
 g18:=by kernel_rfl
 g19:=by kernel_rfl
 i0:=by kernel_rfl
 i2:=by kernel_rfl
 i3:=by kernel_rfl
 i4:=by kernel_rfl
 i5:=by kernel_rfl
 i9:=by kernel_rfl
 i20:=by kernel_rfl
 i37:=by kernel_rfl
 i46:=by kernel_rfl
 i51:=by kernel_rfl
 i53:=by kernel_rfl
 i171:=by kernel_rfl
 i173:=by kernel_rfl
 i212:=by kernel_rfl
 i232:=by kernel_rfl
 i233:=by kernel_rfl
 m17:=by kernel_rfl
 m18:=by kernel_rfl
 m19:=by kernel_rfl}
open Go.RowKit Go.Sort Go.Lib in
theorem Tryz.strconv_Itoa (n:Int)(h0:-9223372036854775808≤n)(h1:n≤9223372036854775807)(w:World)(htab:Lib.TabIs Tryz.prog w "internal/strconv.uint64pow10" .u64 Lib.pow10Tab):
  Calls Tryz.prog 284 #[.int .i64 n] w fun e w'=>e=.returned (.string ⟨(Lib.itoa n).toArray⟩)∧∃ k os,w'=grow (w.drewN k) os:=Any.strconv_Itoa Tryz.laysM171 n h0 h1 w htab
def Tryz.lays143_ren:Go.Shelf.Ren:=⟨fun | 143=>251 | 219=>242 | 217=>280 | 225=>281 | 224=>282 | 267=>283 | 266=>314 | 314=>315 | n=>n,fun | 9=>9 | 3=>3 | 4=>4 | 5=>5 | 46=>249 | 146=>310 | 51=>278 | n=>n,fun | 1=>0 | n=>n⟩
theorem Tryz.lays143:Go.Proofs.Lays.n143 Tryz.prog Tryz.lays143_ren:={
 mixed:=by kernel_rfl
 f143:=Tryz.func251.trans (congrArg some (by kernel_rfl))
 f217:=Tryz.func280.trans (congrArg some (by kernel_rfl))
 f219:=Tryz.func242.trans (congrArg some (by kernel_rfl))
 f224:=Tryz.func282.trans (congrArg some (by kernel_rfl))
 f225:=Tryz.func281.trans (congrArg some (by kernel_rfl))
 f266:=Tryz.func314.trans (congrArg some (by kernel_rfl))
 f267:=Tryz.func283.trans (congrArg some (by kernel_rfl))
 f314:=Tryz.func315.trans (congrArg some (by kernel_rfl))
 t3:=Tryz.underlying3
 a3:=Tryz.isAgg3
 z3:=Tryz.sizeOf3
 v3:=Tryz.zeroValue3
 t4:=Tryz.underlying4
 a4:=Tryz.isAgg4
 z4:=Tryz.sizeOf4
 v4:=Tryz.zeroValue4
 t5:=Tryz.underlying5
 a5:=Tryz.isAgg5
 z5:=Tryz.sizeOf5
 v5:=Tryz.zeroValue5
 t9:=Tryz.underlying9
 a9:=Tryz.isAgg9
 z9:=Tryz.sizeOf9
 v9:=Tryz.zeroValue9
 t46:=Tryz.underlying249
 a46:=Tryz.isAgg249
 z46:=Tryz.sizeOf249
 v46:=Tryz.zeroValue249
 t51:=Tryz.underlying278
 a51:=Tryz.isAgg278
 z51:=Tryz.sizeOf278
 v51:=Tryz.zeroValue278
 t146:=Tryz.underlying310
 a146:=Tryz.isAgg310
 z146:=Tryz.sizeOf310
 v146:=Tryz.zeroValue310
 g1:=by kernel_rfl}
open Go.RowKit Go.Lib in
theorem Tryz.strings_Index (s sub:ByteArray)(m:Int)(w:World)(hs:s.size < 4294967281)(hm:w.cell? ⟨0,0,none⟩=some (.int .i64 m)):
  Calls Tryz.prog 251 #[.string s,.string sub] w fun e w'=>e=.returned (.int .i64 (Lib.index s.data.toList sub.data.toList))∧w'=w:=Any.strings_Index Tryz.lays143 s sub m w hs hm
def Tryz.lays138_ren:Go.Shelf.Ren:=⟨fun | 138=>250 | 195=>288 | 218=>290 | 143=>251 | 219=>242 | 217=>280 | 225=>281 | 224=>282 | 267=>283 | 266=>314 | 314=>315 | n=>n,fun | 9=>9 | 3=>3 | 4=>4 | 5=>5 | 0=>0 | 46=>249 | 146=>310 | 51=>278 | n=>n,fun | 1=>0 | n=>n⟩
theorem Tryz.lays138:Go.Proofs.Lays.n138 Tryz.prog Tryz.lays138_ren:={
 mixed:=by kernel_rfl
 f138:=Tryz.func250.trans (congrArg some (by kernel_rfl))
 f143:=Tryz.func251.trans (congrArg some (by kernel_rfl))
 f195:=Tryz.func288.trans (congrArg some (by kernel_rfl))
 f217:=Tryz.func280.trans (congrArg some (by kernel_rfl))
 f218:=Tryz.func290.trans (congrArg some (by kernel_rfl))
 f219:=Tryz.func242.trans (congrArg some (by kernel_rfl))
 f224:=Tryz.func282.trans (congrArg some (by kernel_rfl))
 f225:=Tryz.func281.trans (congrArg some (by kernel_rfl))
 f266:=Tryz.func314.trans (congrArg some (by kernel_rfl))
 f267:=Tryz.func283.trans (congrArg some (by kernel_rfl))
 f314:=Tryz.func315.trans (congrArg some (by kernel_rfl))
 t0:=Tryz.underlying0
 a0:=Tryz.isAgg0
 z0:=Tryz.sizeOf0
 v0:=Tryz.zeroValue0
 t3:=Tryz.underlying3
 a3:=Tryz.isAgg3
 z3:=Tryz.sizeOf3
 v3:=Tryz.zeroValue3
 t4:=Tryz.underlying4
 a4:=Tryz.isAgg4
 z4:=Tryz.sizeOf4
 v4:=Tryz.zeroValue4
 t5:=Tryz.underlying5
 a5:=Tryz.isAgg5
 z5:=Tryz.sizeOf5
 v5:=Tryz.zeroValue5
 t9:=Tryz.underlying9
 a9:=Tryz.isAgg9
 z9:=Tryz.sizeOf9
 v9:=Tryz.zeroValue9
 t46:=Tryz.underlying249
 a46:=Tryz.isAgg249
 z46:=Tryz.sizeOf249
 v46:=Tryz.zeroValue249
 t51:=Tryz.underlying278
 a51:=Tryz.isAgg278
 z51:=Tryz.sizeOf278
 v51:=Tryz.zeroValue278
 t146:=Tryz.underlying310
 a146:=Tryz.isAgg310
 z146:=Tryz.sizeOf310
 v146:=Tryz.zeroValue310
 g1:=by kernel_rfl}
open Go.RowKit Go.Lib in
theorem Tryz.strings_Count_one (s:ByteArray)(c:UInt8)(w:World):
  Calls Tryz.prog 250 #[.string s,.string ⟨#[c]⟩] w fun e w'=>e=.returned (.int .i64 (Lib.countByte s.data.toList c))∧w'=w:=Any.strings_Count_one Tryz.lays138 s c w
open Go.RowKit Go.Lib in
theorem Tryz.strings_Count (s sub:ByteArray)(m:Int)(w:World)(hs:s.size < 4294967281)(hm:w.cell? ⟨0,0,none⟩=some (.int .i64 m))(h2:2≤sub.size):
  Calls Tryz.prog 250 #[.string s,.string sub] w fun e w'=>e=.returned (.int .i64 (Lib.countB s sub))∧w'=w:=Any.strings_Count Tryz.lays138 s sub m w hs hm h2
def Tryz.laysM143_ren:Go.Shelf.Ren:=⟨fun | 143=>251 | 219=>242 | 217=>280 | 225=>281 | 224=>282 | 267=>283 | 266=>314 | 314=>315 | n=>n,fun | 9=>9 | 3=>3 | 4=>4 | 5=>5 | 46=>249 | 146=>310 | 51=>278 | n=>n,fun | 1=>0 | n=>n⟩
theorem Tryz.laysM143:Go.Proofs.LaysM.n143 Tryz.prog Tryz.laysM143_ren:={
 mixed:=by kernel_rfl
 f143:=Tryz.func251.trans (congrArg some (by kernel_rfl))
 f217:=Tryz.func280.trans (congrArg some (by kernel_rfl))
 f219:=Tryz.func242.trans (congrArg some (by kernel_rfl))
 f224:=Tryz.func282.trans (congrArg some (by kernel_rfl))
 f225:=Tryz.func281.trans (congrArg some (by kernel_rfl))
 f266:=Tryz.func314.trans (congrArg some (by kernel_rfl))
 f267:=Tryz.func283.trans (congrArg some (by kernel_rfl))
 f314:=Tryz.func315.trans (congrArg some (by kernel_rfl))
 t3:=Tryz.underlying3
 a3:=Tryz.isAgg3
 z3:=Tryz.sizeOf3
 v3:=Tryz.zeroValue3
 t4:=Tryz.underlying4
 a4:=Tryz.isAgg4
 z4:=Tryz.sizeOf4
 v4:=Tryz.zeroValue4
 t5:=Tryz.underlying5
 a5:=Tryz.isAgg5
 z5:=Tryz.sizeOf5
 v5:=Tryz.zeroValue5
 t9:=Tryz.underlying9
 a9:=Tryz.isAgg9
 z9:=Tryz.sizeOf9
 v9:=Tryz.zeroValue9
 t46:=Tryz.underlying249
 a46:=Tryz.isAgg249
 z46:=Tryz.sizeOf249
 v46:=Tryz.zeroValue249
 t51:=Tryz.underlying278
 a51:=Tryz.isAgg278
 z51:=Tryz.sizeOf278
 v51:=Tryz.zeroValue278
 t146:=Tryz.underlying310
 a146:=Tryz.isAgg310
 z146:=Tryz.sizeOf310
 v146:=Tryz.zeroValue310
 g1:=by kernel_rfl
 i3:=by kernel_rfl
 i4:=by kernel_rfl
 i5:=by kernel_rfl
 i9:=by kernel_rfl
 i46:=by kernel_rfl
 i51:=by kernel_rfl
 i146:=by kernel_rfl
 m1:=by kernel_rfl
 s1_3:=fun w h=>Go.Proofs.cell_of_shapedOpen_int (zero:=#[.int .i64 0]) (t:=3) h (of_decide_eq_true (by kernel_rfl)) (by kernel_rfl) rfl (by kernel_rfl) (by kernel_rfl) Tryz.underlying3}
open Go.RowKit Go.Lib in
open Go.Shelf Go.RowKit
theorem Tryz.bld_size:(Tryz.prog.info? 215).map (·.size)=some 2:=by kernel_rfl
theorem Tryz.bld_lies:liesAt Tryz.prog Tryz.prog.depth 215 (2 / Tryz.prog.cellsOf 215) 0 215 1=true:=by kernel_rfl
theorem Tryz.copyCheck_used (b:Nat)(w:World)(h0:w.cell? ⟨b,0,none⟩=some (.pointer (some ⟨b,0,none⟩))):
  Calls Tryz.prog 246 #[.pointer (some ⟨b,0,none⟩)] w fun e w'=>e=.returned (.tuple #[])∧w'=w:=by
 obtain⟨j,hj,_⟩:=Option.map_eq_some_iff.1 Tryz.bld_size
 have t72:=Tryz.underlying215;have a72:=Tryz.isAgg215;have z72:=Tryz.sizeOf215;have v72:=Tryz.zeroValue215;have u72:=run_underlying Tryz.underlying215
 have t70:=Tryz.underlying213;have a70:=Tryz.isAgg213;have z70:=Tryz.sizeOf213;have v70:=Tryz.zeroValue213;have u70:=run_underlying Tryz.underlying213
 have t4:=Tryz.underlying4;have a4:=Tryz.isAgg4;have z4:=Tryz.sizeOf4;have v4:=Tryz.zeroValue4;have u4:=run_underlying Tryz.underlying4
 have t164:=Tryz.underlying284;have a164:=Tryz.isAgg284;have z164:=Tryz.sizeOf284;have v164:=Tryz.zeroValue284;have u164:=run_underlying Tryz.underlying284
 go_enter Tryz.func246,Tryz.ntmps246
 go_wp2
 rw[Lib.run_neq_ptr_same w _ Tryz.underlying213 hj]
 go_wp2
 go_end0
 exact⟨rfl,rfl⟩
theorem Tryz.copyCheck_fresh (b:Nat)(w:World)(h0:w.cell? ⟨b,0,none⟩=some (.pointer none))(hsh:w.shape? b=some (215,2))(hfz:w.frozen? ⟨b,0,none⟩=false):
  Calls Tryz.prog 246 #[.pointer (some ⟨b,0,none⟩)] w fun e w'=>e=.returned (.tuple #[])∧w'=w.setCell ⟨b,0,none⟩ (.pointer (some ⟨b,0,none⟩)):=by
 obtain⟨j,hj,hjs⟩:=Option.map_eq_some_iff.1 Tryz.bld_size
 have t72:=Tryz.underlying215;have a72:=Tryz.isAgg215;have z72:=Tryz.sizeOf215;have v72:=Tryz.zeroValue215;have u72:=run_underlying Tryz.underlying215
 have t70:=Tryz.underlying213;have a70:=Tryz.isAgg213;have z70:=Tryz.sizeOf213;have v70:=Tryz.zeroValue213;have u70:=run_underlying Tryz.underlying213
 have t4:=Tryz.underlying4;have a4:=Tryz.isAgg4;have z4:=Tryz.sizeOf4;have v4:=Tryz.zeroValue4;have u4:=run_underlying Tryz.underlying4
 have t164:=Tryz.underlying284;have a164:=Tryz.isAgg284;have z164:=Tryz.sizeOf284;have v164:=Tryz.zeroValue284;have u164:=run_underlying Tryz.underlying284
 go_enter Tryz.func246,Tryz.ntmps246
 go_wp2
 rw[Lib.run_to_unsafe w ⟨b,0,none⟩ Tryz.underlying213 Tryz.underlying284 hj (by rw[hjs];decide) hsh (Nat.zero_lt_succ 1)]
 simp only[Result.andThen]
 rw[Oper.upon_value]
 go_wp2
 rw[run_callFunc_extern Tryz.func287 (by kernel_rfl) (by kernel_rfl) (by kernel_rfl) (e:=Extern.AbiNoEscape.same) (by kernel_rfl)]
 rw[Lib.run_noEscape]
 simp only[Result.andThen]
 rw[Oper.upon_value]
 go_wp2
 rw[Lib.run_from_unsafe w ⟨b,0,none⟩ Tryz.underlying284 Tryz.underlying213 hj hsh Tryz.bld_lies]
 simp only[Result.andThen]
 rw[Oper.upon_value]
 go_wp2
 go_end0
 exact⟨rfl,rfl⟩
theorem Tryz.byte_info:(Tryz.prog.info? 5).map (fun i=>(i.size,i.bytes,i.zero))=some (1,1,some (.int .u8 0)):=by kernel_rfl
theorem Tryz.byte_parts:∃ i,Tryz.prog.info? 5=some i∧i.zero=some (.int .u8 0)∧i.size=1∧i.bytes=1:=by
 obtain⟨i,hi,h⟩:=Option.map_eq_some_iff.1 Tryz.byte_info
 simp only[Prod.mk.injEq] at h
 exact⟨i,hi,h.2.2,h.1,h.2.1⟩
theorem Tryz.bwstr (b:Nat)(p v:Value)(l:List UInt8)(s:ByteArray)(w:World)(hp:p=.pointer none∨p=.pointer (some ⟨b,0,none⟩))(hbk:w.heap[b]?=some (.cells #[p,v] 215 (0,0)))(hown:w.ownsRow 0 5 1 v l.length (Ev.byteVs l))(hne:v.ownBlock≠some b)(hlen:l.length+s.size≤140737488355328):
  Calls Tryz.prog 194 #[.pointer (some ⟨b,0,none⟩),.string s] w fun e w'=>e=.returned (.tuple #[.int .i64 s.size,.nilIface])∧Ev.Wrote b 215 5 (l++s.data.toList) v w w':=by
 obtain⟨i0,hi,hz0,hz1,hz2⟩:=Tryz.byte_parts
 have cc:Calls Tryz.prog 246 #[.pointer (some ⟨b,0,none⟩)] w fun e w1=>e=.returned (.tuple #[])∧(w1=w∧p=.pointer (some ⟨b,0,none⟩)∨w1=w.setCell ⟨b,0,none⟩ (.pointer (some ⟨b,0,none⟩))):=by
  rcases hp with rfl | rfl
  ·exact(Tryz.copyCheck_fresh b w (by simp[World.cell?,hbk]) (by simp[World.shape?,hbk]) (by simp[World.frozen?,hbk])).mono fun e w' ⟨h1,h2⟩=>⟨h1,.inr h2⟩
  ·exact(Tryz.copyCheck_used b w (by simp[World.cell?,hbk])).mono fun e w' ⟨h1,h2⟩=>⟨h1,.inl ⟨h2,rfl⟩⟩
 have t72:=Tryz.underlying215;have a72:=Tryz.isAgg215;have z72:=Tryz.sizeOf215;have v72:=Tryz.zeroValue215;have u72:=run_underlying Tryz.underlying215
 have t70:=Tryz.underlying213;have a70:=Tryz.isAgg213;have z70:=Tryz.sizeOf213;have v70:=Tryz.zeroValue213;have u70:=run_underlying Tryz.underlying213
 have t37:=Tryz.underlying53;have a37:=Tryz.isAgg53;have z37:=Tryz.sizeOf53;have v37:=Tryz.zeroValue53;have u37:=run_underlying Tryz.underlying53
 have t3:=Tryz.underlying3;have a3:=Tryz.isAgg3;have z3:=Tryz.sizeOf3;have v3:=Tryz.zeroValue3;have u3:=run_underlying Tryz.underlying3
 have t9:=Tryz.underlying9;have a9:=Tryz.isAgg9;have z9:=Tryz.sizeOf9;have v9:=Tryz.zeroValue9;have u9:=run_underlying Tryz.underlying9
 have t91:=Tryz.underlying217;have a91:=Tryz.isAgg217;have z91:=Tryz.sizeOf217;have v91:=Tryz.zeroValue217;have u91:=run_underlying Tryz.underlying217
 have t5:=Tryz.underlying5;have a5:=Tryz.isAgg5;have z5:=Tryz.sizeOf5;have v5:=Tryz.zeroValue5;have u5:=run_underlying Tryz.underlying5
 have eCC:∀ args w,(callFunc 246 args).run Tryz.prog w=.ok (.enter 246 args) w:=enters_of Tryz.func246 (by kernel_rfl) rfl
 go_enter Tryz.func194,Tryz.ntmps194
 go_wp2_with (go_at_fn 246;refine cc.mono ?_)
 rintro e w1 ⟨rfl,h1⟩
 have hlt:b < w.heap.size:=(Array.getElem?_eq_some_iff.1 hbk).1
 have hb1:w1.heap[b]?=some (.cells #[.pointer (some ⟨b,0,none⟩),v] 215 (0,0)):=by
  rcases h1 with⟨rfl,rfl⟩ | rfl
  ·exact hbk
  ·simp[World.setCell,Array.getElem?_modify,hbk]
 have hs1:w1.heap.size=w.heap.size:=by
  rcases h1 with⟨rfl,rfl⟩ | rfl
  ·rfl
  ·simp[World.setCell]
 have hoth:∀ k,k≠b→w1.heap[k]?=w.heap[k]?:=fun k hk=>by
  rcases h1 with⟨rfl,rfl⟩ | rfl
  ·rfl
  ·exact RowKit.Below.heap_setCell _ _ _ _ fun e=>hk (by simpa using e)
 have hown1:w1.ownsRow 0 5 1 v l.length (Ev.byteVs l):=by
  refine⟨hown.1,?_⟩
  rcases hown.2 with q | ⟨g,cap,cur,q1,q2,q3,q4⟩
  ·exact .inl q
  ·refine .inr ⟨g,cap,cur,q1,q2,?_,q4⟩
   rw[hoth g fun e=>hne (by rw[q1,← e];rfl)]
   exact q3
 have c0:w1.cell? ⟨b,0,none⟩=some (.pointer (some ⟨b,0,none⟩)):=by rw[Lib.cell_of_heap hb1];rfl
 have c1:w1.cell? ⟨b,1,none⟩=some v:=by rw[Lib.cell_of_heap hb1];rfl
 go_wp2_with (at_builtin;refine Ev.wpList_append_bld rfl _ _ 53 9 rfl 5 i0 Tryz.underlying53 Tryz.underlying9 hi hz0 hz1 hz2 _ _ _ rfl hown1 s rfl hlen ?_)
 intro v' w2 hown' hgrow hblk
 have hb2:w2.heap[b]?=some (.cells #[.pointer (some ⟨b,0,none⟩),v] 215 (0,0)):=by
  rw[hgrow.block b (by omega) (fun e=>hne e.symm)]
  exact hb1
 have d0:w2.cell? ⟨b,0,none⟩=some (.pointer (some ⟨b,0,none⟩)):=by rw[Lib.cell_of_heap hb2];rfl
 have d1:w2.cell? ⟨b,1,none⟩=some v:=by rw[Lib.cell_of_heap hb2];rfl
 have f1:w2.frozen? ⟨b,1,none⟩=false:=Lib.frozen_of_heap hb2 1
 have fin:=Ev.wrote_of (s:=s) hbk hown hne h1 hown' hgrow (fun k hk=>by rw[hs1];exact hblk k hk)
 obtain⟨ao,n',cap,rfl⟩:∃ ao n' cap,v'=.slice ao n' cap:=by
  rcases hown'.2 with⟨hv,_⟩ | ⟨g,cap,cur,hv,_⟩
  ·exact⟨_,_,_,hv⟩
  ·exact⟨_,_,_,hv⟩
 go_wp2
 go_ret2
 exact⟨rfl,fin⟩
theorem Tryz.byte_cells:Tryz.prog.cellsOf 5=1:=by kernel_rfl
theorem Tryz.bstr_some (b g cap:Nat)(cur:Array Value)(p:Value)(l:List UInt8)(w:World)(h0:l≠[])(hbk:w.heap[b]?=some (.cells #[p,.slice (some ⟨g,0,none⟩) l.length cap] 215 (0,0)))(hg:w.heap[g]?=some (.cells cur 5 (0,0)))(hnc:l.length≤cap)(hcm:cap≤maxLen)(hcs:cur.size=cap*1)
  (hcell:∀ (j:Nat) (x:UInt8),l[j]?=some x→w.cell? ((⟨g,0,none⟩:Addr).add j)=some (.int .u8 x.toNat)):
  Calls Tryz.prog 195 #[.pointer (some ⟨b,0,none⟩)] w fun e w'=>e=.returned (.string ⟨l.toArray⟩)∧Ev.ReadB (.slice (some ⟨g,0,none⟩) l.length cap) w w':=by
 have hl0:l.length≠0:=by simpa using h0
 have c1:w.drew.cell? ⟨b,1,none⟩=some (.slice (some ⟨g,0,none⟩) l.length cap):=by
  have:w.drew.heap[b]?=some (.cells #[p,.slice (some ⟨g,0,none⟩) l.length cap] 215 (0,0)):=hbk
  rw[Lib.cell_of_heap this];rfl
 have hSD:(Builtin.unsafeSliceData_ #[53] 262 #[.slice (some ⟨g,0,none⟩) l.length cap]).run Tryz.prog w.drew=.ok (.pointer (some ⟨g,0,none⟩)) w.drew:=
  Lib.run_unsafeSliceData_row _ _ _ _ _ _ (by omega)
 have hUS:(Builtin.unsafeString_ #[262,3] 9 #[.pointer (some ⟨g,0,none⟩),.int .i64 l.length]).run Tryz.prog w.drew=.ok (.string ⟨l.toArray⟩) (w.drew.freeze ⟨g,0,none⟩ l.length):=by
  refine Lib.run_unsafeString_row w.drew 262 3 9 5 Tryz.underlying262 Tryz.byte_cells g cur.size (by have hg':w.drew.heap[g]?=some (.cells cur 5 (0,0)):=hg;simp[World.shape?,hg']) l h0 (by omega) (by unfold maxLen at hcm;omega) ?_
  intro j x hx
  exact hcell j x hx
 have t72:=Tryz.underlying215;have a72:=Tryz.isAgg215;have z72:=Tryz.sizeOf215;have v72:=Tryz.zeroValue215;have u72:=run_underlying Tryz.underlying215
 have t70:=Tryz.underlying213;have a70:=Tryz.isAgg213;have z70:=Tryz.sizeOf213;have v70:=Tryz.zeroValue213;have u70:=run_underlying Tryz.underlying213
 have t37:=Tryz.underlying53;have a37:=Tryz.isAgg53;have z37:=Tryz.sizeOf53;have v37:=Tryz.zeroValue53;have u37:=run_underlying Tryz.underlying53
 have t127:=Tryz.underlying262;have a127:=Tryz.isAgg262;have z127:=Tryz.sizeOf262;have v127:=Tryz.zeroValue262;have u127:=run_underlying Tryz.underlying262
 have t3:=Tryz.underlying3;have a3:=Tryz.isAgg3;have z3:=Tryz.sizeOf3;have v3:=Tryz.zeroValue3;have u3:=run_underlying Tryz.underlying3
 have t9:=Tryz.underlying9;have a9:=Tryz.isAgg9;have z9:=Tryz.sizeOf9;have v9:=Tryz.zeroValue9;have u9:=run_underlying Tryz.underlying9
 have t5:=Tryz.underlying5;have a5:=Tryz.isAgg5;have z5:=Tryz.sizeOf5;have v5:=Tryz.zeroValue5;have u5:=run_underlying Tryz.underlying5
 have mixed:Tryz.prog.follows .mixedOrders=true:=by kernel_rfl
 go_enter Tryz.func195,Tryz.ntmps195
 go_wp2
 go_region_o
 all_goals (go_wp2;go_ret;exact⟨rfl,Ev.readB_freeze rfl w _⟩)
theorem Tryz.bstr_us (W:World)(q:Option Addr):(Builtin.unsafeString_ #[262,3] 9 #[.pointer q,.int .i64 0]).run Tryz.prog W=.ok (.string .empty) W:=Lib.run_unsafeString_none W _ _ _ q
theorem Tryz.bstr_nil (b:Nat)(p:Value)(w:World)(hbk:w.heap[b]?=some (.cells #[p,.slice none 0 0] 215 (0,0))):
  Calls Tryz.prog 195 #[.pointer (some ⟨b,0,none⟩)] w fun e w'=>e=.returned (.string ⟨#[]⟩)∧Ev.ReadB (.slice none 0 0) w w':=by
 have hUS:=Tryz.bstr_us
 have c1:w.drew.cell? ⟨b,1,none⟩=some (.slice none 0 0):=by
  have:w.drew.heap[b]?=some (.cells #[p,.slice none 0 0] 215 (0,0)):=hbk
  rw[Lib.cell_of_heap this];rfl
 have hSD:(Builtin.unsafeSliceData_ #[53] 262 #[.slice none 0 0]).run Tryz.prog w.drew=.ok (.pointer none) w.drew:=rfl
 have t72:=Tryz.underlying215;have a72:=Tryz.isAgg215;have z72:=Tryz.sizeOf215;have v72:=Tryz.zeroValue215;have u72:=run_underlying Tryz.underlying215
 have t70:=Tryz.underlying213;have a70:=Tryz.isAgg213;have z70:=Tryz.sizeOf213;have v70:=Tryz.zeroValue213;have u70:=run_underlying Tryz.underlying213
 have t37:=Tryz.underlying53;have a37:=Tryz.isAgg53;have z37:=Tryz.sizeOf53;have v37:=Tryz.zeroValue53;have u37:=run_underlying Tryz.underlying53
 have t127:=Tryz.underlying262;have a127:=Tryz.isAgg262;have z127:=Tryz.sizeOf262;have v127:=Tryz.zeroValue262;have u127:=run_underlying Tryz.underlying262
 have t3:=Tryz.underlying3;have a3:=Tryz.isAgg3;have z3:=Tryz.sizeOf3;have v3:=Tryz.zeroValue3;have u3:=run_underlying Tryz.underlying3
 have t9:=Tryz.underlying9;have a9:=Tryz.isAgg9;have z9:=Tryz.sizeOf9;have v9:=Tryz.zeroValue9;have u9:=run_underlying Tryz.underlying9
 have t5:=Tryz.underlying5;have a5:=Tryz.isAgg5;have z5:=Tryz.sizeOf5;have v5:=Tryz.zeroValue5;have u5:=run_underlying Tryz.underlying5
 have mixed:Tryz.prog.follows .mixedOrders=true:=by kernel_rfl
 go_enter Tryz.func195,Tryz.ntmps195
 go_wp2
 go_region_o
 all_goals (go_wp2;go_ret;exact⟨rfl,Ev.readB_drew _ w⟩)
theorem Tryz.bstr_noroom (b g:Nat)(p:Value)(cur:Array Value)(w:World)(hbk:w.heap[b]?=some (.cells #[p,.slice (some ⟨g,0,none⟩) 0 0] 215 (0,0)))(hg:w.heap[g]?=some (.cells cur 5 (0,0))):
  Calls Tryz.prog 195 #[.pointer (some ⟨b,0,none⟩)] w fun e w'=>e=.returned (.string ⟨#[]⟩)∧Ev.ReadB (.slice (some ⟨g,0,none⟩) 0 0) w w':=by
 have hUS:=Tryz.bstr_us
 have hlt:b < w.heap.size:=(Array.getElem?_eq_some_iff.1 hbk).1
 have c1:w.drew.cell? ⟨b,1,none⟩=some (.slice (some ⟨g,0,none⟩) 0 0):=by
  have:w.drew.heap[b]?=some (.cells #[p,.slice (some ⟨g,0,none⟩) 0 0] 215 (0,0)):=hbk
  rw[Lib.cell_of_heap this];rfl
 have hSD:(Builtin.unsafeSliceData_ #[53] 262 #[.slice (some ⟨g,0,none⟩) 0 0]).run Tryz.prog w.drew=.ok (.pointer (some ⟨w.drew.heap.size,0,none⟩)) (w.drew.alloc (.view ⟨g,0,none⟩ 5)):=
  Lib.run_unsafeSliceData_zero w.drew _ _ 5 Tryz.underlying262 ⟨g,0,none⟩ 0 (5,cur.size) (by have hg':w.drew.heap[g]?=some (.cells cur 5 (0,0)):=hg;simp[World.shape?,hg'])
 have c2:(w.drew.alloc (.view ⟨g,0,none⟩ 5)).cell? ⟨b,1,none⟩=some (.slice (some ⟨g,0,none⟩) 0 0):=by
  have:(w.drew.alloc (.view ⟨g,0,none⟩ 5)).heap[b]?=_:=(Lib.alloc_old w.drew _ b hlt).trans hbk
  rw[Lib.cell_of_heap this];rfl
 have c3:(w.alloc (.view ⟨g,0,none⟩ 5)).drew.cell? ⟨b,1,none⟩=some (.slice (some ⟨g,0,none⟩) 0 0):=c2
 have c0:w.cell? ⟨b,1,none⟩=some (.slice (some ⟨g,0,none⟩) 0 0):=c1
 have t72:=Tryz.underlying215;have a72:=Tryz.isAgg215;have z72:=Tryz.sizeOf215;have v72:=Tryz.zeroValue215;have u72:=run_underlying Tryz.underlying215
 have t70:=Tryz.underlying213;have a70:=Tryz.isAgg213;have z70:=Tryz.sizeOf213;have v70:=Tryz.zeroValue213;have u70:=run_underlying Tryz.underlying213
 have t37:=Tryz.underlying53;have a37:=Tryz.isAgg53;have z37:=Tryz.sizeOf53;have v37:=Tryz.zeroValue53;have u37:=run_underlying Tryz.underlying53
 have t127:=Tryz.underlying262;have a127:=Tryz.isAgg262;have z127:=Tryz.sizeOf262;have v127:=Tryz.zeroValue262;have u127:=run_underlying Tryz.underlying262
 have t3:=Tryz.underlying3;have a3:=Tryz.isAgg3;have z3:=Tryz.sizeOf3;have v3:=Tryz.zeroValue3;have u3:=run_underlying Tryz.underlying3
 have t9:=Tryz.underlying9;have a9:=Tryz.isAgg9;have z9:=Tryz.sizeOf9;have v9:=Tryz.zeroValue9;have u9:=run_underlying Tryz.underlying9
 have t5:=Tryz.underlying5;have a5:=Tryz.isAgg5;have z5:=Tryz.sizeOf5;have v5:=Tryz.zeroValue5;have u5:=run_underlying Tryz.underlying5
 have mixed:Tryz.prog.follows .mixedOrders=true:=by kernel_rfl
 go_enter Tryz.func195,Tryz.ntmps195
 go_wp2
 go_region_o
 all_goals (go_wp2;go_ret;exact⟨rfl,Ev.readB_alloc _ w _⟩)
theorem Tryz.bstr_room (b g cap:Nat)(p:Value)(w:World)(hc0:cap≠0)(hbk:w.heap[b]?=some (.cells #[p,.slice (some ⟨g,0,none⟩) 0 cap] 215 (0,0))):
  Calls Tryz.prog 195 #[.pointer (some ⟨b,0,none⟩)] w fun e w'=>e=.returned (.string ⟨#[]⟩)∧Ev.ReadB (.slice (some ⟨g,0,none⟩) 0 cap) w w':=by
 have hUS:=Tryz.bstr_us
 have c1:w.drew.cell? ⟨b,1,none⟩=some (.slice (some ⟨g,0,none⟩) 0 cap):=by
  have:w.drew.heap[b]?=some (.cells #[p,.slice (some ⟨g,0,none⟩) 0 cap] 215 (0,0)):=hbk
  rw[Lib.cell_of_heap this];rfl
 have hSD:(Builtin.unsafeSliceData_ #[53] 262 #[.slice (some ⟨g,0,none⟩) 0 cap]).run Tryz.prog w.drew=.ok (.pointer (some ⟨g,0,none⟩)) w.drew:=
  Lib.run_unsafeSliceData_row _ _ _ _ _ _ hc0
 clear hc0
 have t72:=Tryz.underlying215;have a72:=Tryz.isAgg215;have z72:=Tryz.sizeOf215;have v72:=Tryz.zeroValue215;have u72:=run_underlying Tryz.underlying215
 have t70:=Tryz.underlying213;have a70:=Tryz.isAgg213;have z70:=Tryz.sizeOf213;have v70:=Tryz.zeroValue213;have u70:=run_underlying Tryz.underlying213
 have t37:=Tryz.underlying53;have a37:=Tryz.isAgg53;have z37:=Tryz.sizeOf53;have v37:=Tryz.zeroValue53;have u37:=run_underlying Tryz.underlying53
 have t127:=Tryz.underlying262;have a127:=Tryz.isAgg262;have z127:=Tryz.sizeOf262;have v127:=Tryz.zeroValue262;have u127:=run_underlying Tryz.underlying262
 have t3:=Tryz.underlying3;have a3:=Tryz.isAgg3;have z3:=Tryz.sizeOf3;have v3:=Tryz.zeroValue3;have u3:=run_underlying Tryz.underlying3
 have t9:=Tryz.underlying9;have a9:=Tryz.isAgg9;have z9:=Tryz.sizeOf9;have v9:=Tryz.zeroValue9;have u9:=run_underlying Tryz.underlying9
 have t5:=Tryz.underlying5;have a5:=Tryz.isAgg5;have z5:=Tryz.sizeOf5;have v5:=Tryz.zeroValue5;have u5:=run_underlying Tryz.underlying5
 have mixed:Tryz.prog.follows .mixedOrders=true:=by kernel_rfl
 go_enter Tryz.func195,Tryz.ntmps195
 go_wp2
 go_region_o
 all_goals (go_wp2;go_ret;exact⟨rfl,Ev.readB_drew _ w⟩)
theorem Tryz.bstr (b:Nat)(p v:Value)(l:List UInt8)(w:World)(hbk:w.heap[b]?=some (.cells #[p,v] 215 (0,0)))(hown:w.ownsRow 0 5 1 v l.length (Ev.byteVs l)):
  Calls Tryz.prog 195 #[.pointer (some ⟨b,0,none⟩)] w fun e w'=>e=.returned (.string ⟨l.toArray⟩)∧Ev.ReadB v w w':=by
 rcases hown.2 with⟨rfl,h0⟩ | ⟨g,cap,cur,rfl,_,hg,hnc,hcm,hcs,htake⟩
 ·obtain rfl:=List.eq_nil_of_length_eq_zero h0
  exact Tryz.bstr_nil b p w hbk
 ·cases l with
  | nil=>
   by_cases hc:cap=0
   ·subst hc
    exact Tryz.bstr_noroom b g p cur w hbk hg
   ·exact Tryz.bstr_room b g cap p w hc hbk
  | cons x l=>
   refine Tryz.bstr_some b g cap cur p (x::l) w (by simp) hbk hg hnc hcm hcs fun j y hy=>?_
   exact hown.cells (g:=g) rfl j (.int .u8 y.toNat) (by rw[Ev.byteVs,List.getElem?_map,hy];rfl)
theorem qdz (s:ByteArray)(c:Int)(w:World):
  Calls Tryz.prog 280 #[.string s,.int .u8 c] w fun e w'=>e=.returned (.int .i64 (Lib.indexByte s.data.toList c.toNat.toUInt8))∧w'=w:=by
 go_enter Tryz.func280,Tryz.ntmps280
 go_wp2
 rw[run_callFunc_extern Tryz.func314 (by kernel_rfl) (by kernel_rfl) (by kernel_rfl) (e:=Extern.BytealgIndexByte.indexByte) (by kernel_rfl),Lib.run_indexByteString]
 simp only[Result.andThen]
 rw[Oper.upon_value]
 go_wp2
 go_ret
 exact⟨rfl,rfl⟩
end Go.Proofs
namespace Go.Ev
open Go Go.Proofs
def OkT:Nat→World→Prop:=fun n w=>OkTab Tryz.prog 3 n w∧OkMax 0 n w
theorem okT:Stable OkT:=qrxb (qbhb (by kernel_rfl)) qbjb
theorem okT_max:∀ B w,OkT B w→∃ m,w.cell? ⟨0,0,none⟩=some (.int .i64 m):=fun _ _ h=>h.2.2
theorem okT_shape (w:World)(h:w.ShapedOpen Tryz.prog):∃ m,w.cell? ⟨0,0,none⟩=some (.int .i64 m):=Tryz.laysM143.s1_3 w h
theorem qae:Tryz.prog.follows .mixedOrders=true:=by kernel_rfl
def qrn:Run | [.one (.sc (.string s)),.one (.sc (.int .u8 c))],H=>some ([.one (.sc (.int .i64 (Lib.indexByte s.data.toList c.toNat.toUInt8)))],H) | _,_=>none
theorem ok_fbw:FnOk Tryz.prog OkT fid_fbw qrn:=by
 intro args H r h g B w vs hOk hh hB ha
 unfold qrn at h
 split at h
 ·rename_i s c
  simp only[Option.some.injEq] at h
  subst h
  cases ha with
  | cons a1 t1=>cases t1 with
   | cons a2 t2=>cases t2 with
    | nil=>
     cases a1 with
     | one _ _ h1=>cases a2 with
      | one _ _ h2=>
       cases h1;cases h2
       refine(qdz s c w).mono fun e w' ⟨he,hw⟩=>⟨_,he,g,?_,?_,?_⟩
       ·rw[hw];exact .refl _ _
       ·rw[hw];exact hh
       ·rw[hw];exact .av _ _ (.one _ _ (.sc _ rfl))
 ·simp at h
noncomputable def qgpb:Run:=qnd
theorem ok_ffd:FnOk Tryz.prog OkT fid_ffd qgpb:=join_ok Tryz.strings_Join Tryz.strings_Join_none
noncomputable def qczb:Run:=qoj
theorem ok_few:FnOk Tryz.prog OkT fid_few qczb:=itoa_ok fun n h0 h1 _ w h=>Tryz.strconv_Itoa n h0 h1 w h.1.2
noncomputable def qyn:Run:=qdw
theorem ok_fez:FnOk Tryz.prog OkT fid_fez qyn:=countM_ok (G:=0) okT_max Tryz.strings_Count_one Tryz.strings_Count
noncomputable def quk:Run:=qgg
theorem ok_ffc:FnOk Tryz.prog OkT fid_ffc quk:=indexM_ok (G:=0) okT_max Tryz.strings_Index
noncomputable def qdqb:Run:=qje
theorem ok_fff:FnOk Tryz.prog OkT fid_fff qdqb:=trim1_ok Tryz.strings_Trim_one
noncomputable def qui:Run:=qid 215 5
theorem ok_fey:FnOk Tryz.prog OkT fid_fey qui:=bwstr_ok Tryz.bwstr
noncomputable def qetb:Run:=qlo 215 5
theorem ok_fex:FnOk Tryz.prog OkT fid_fex qetb:=bstr_ok Tryz.bstr
end Go.Ev
