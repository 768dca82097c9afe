/- Functions of the library that are taken off the shelf, and what all functions here share. Conditions: none. -/
import Derived.Test.YteofbfalngmmeaaDoorEvFi
import Derived.Test.YteofbfalngmmeaaDoorEvLaw
import Derived.Lib.Strings
import Derived.Lib.Slices
import Derived.Lib.Walk
import Derived.Lib.Bytealg
import Derived.KernelRfl
import Derived.Shelf.Strconv.Itoa3
import Derived.Shelf.Strings.Count
import Derived.Test.YteofbfalngmmeaaDoorEvSort
import Derived.Test.YteofbfalngmmeaaDoorEvNum
namespace Go.Proofs
set_option maxHeartbeats 1000000
set_option maxRecDepth 100000
open Go.Shelf
def Tryd.laysM171_ren:Go.Shelf.Ren:=⟨fun | 171=>60 | 243=>68 | 246=>72 | 283=>75 | 284=>76 | 285=>77 | 286=>78 | 129=>87 | 317=>86 | 318=>88 | 319=>89 | 320=>90 | 337=>96 | 338=>97 | n=>n,fun | 3=>3 | 9=>9 | 2=>2 | 4=>4 | 171=>88 | 0=>0 | 53=>89 | 37=>22 | 5=>5 | 173=>92 | 212=>98 | 51=>99 | 20=>20 | 213=>100 | 46=>42 | 232=>109 | 233=>110 | n=>n,fun | 17=>1 | 18=>2 | 19=>3 | n=>n⟩
theorem Tryd.laysM171:Go.Proofs.LaysM.n171 Tryd.prog Tryd.laysM171_ren:={
 mixed:=by kernel_rfl
 f129:=Tryd.func87.trans (congrArg some (by kernel_rfl))
 f171:=Tryd.func60.trans (congrArg some (by kernel_rfl))
 f243:=Tryd.func68.trans (congrArg some (by kernel_rfl))
 f246:=Tryd.func72.trans (congrArg some (by kernel_rfl))
 f283:=Tryd.func75.trans (congrArg some (by kernel_rfl))
 f284:=Tryd.func76.trans (congrArg some (by kernel_rfl))
 f285:=Tryd.func77.trans (congrArg some (by kernel_rfl))
 f286:=Tryd.func78.trans (congrArg some (by kernel_rfl))
 f317:=Tryd.func86.trans (congrArg some (by kernel_rfl))
 f318:=Tryd.func88.trans (congrArg some (by kernel_rfl))
 f319:=Tryd.func89.trans (congrArg some (by kernel_rfl))
 f320:=Tryd.func90.trans (congrArg some (by kernel_rfl))
 f337:=Tryd.func96.trans (congrArg some (by kernel_rfl))
 f338:=Tryd.func97.trans (congrArg some (by kernel_rfl))
 t0:=Tryd.underlying0
 a0:=Tryd.isAgg0
 z0:=Tryd.sizeOf0
 v0:=Tryd.zeroValue0
 t2:=Tryd.underlying2
 a2:=Tryd.isAgg2
 z2:=Tryd.sizeOf2
 v2:=Tryd.zeroValue2
 t3:=Tryd.underlying3
 a3:=Tryd.isAgg3
 z3:=Tryd.sizeOf3
 v3:=Tryd.zeroValue3
 t4:=Tryd.underlying4
 a4:=Tryd.isAgg4
 z4:=Tryd.sizeOf4
 v4:=Tryd.zeroValue4
 t5:=Tryd.underlying5
 a5:=Tryd.isAgg5
 z5:=Tryd.sizeOf5
 v5:=Tryd.zeroValue5
 t9:=Tryd.underlying9
 a9:=Tryd.isAgg9
 z9:=Tryd.sizeOf9
 v9:=Tryd.zeroValue9
 t20:=Tryd.underlying20
 a20:=Tryd.isAgg20
 z20:=Tryd.sizeOf20
 v20:=Tryd.zeroValue20
 t37:=Tryd.underlying22
 a37:=Tryd.isAgg22
 z37:=Tryd.sizeOf22
 v37:=Tryd.zeroValue22
 t46:=Tryd.underlying42
 a46:=Tryd.isAgg42
 z46:=Tryd.sizeOf42
 v46:=Tryd.zeroValue42
 t51:=Tryd.underlying99
 a51:=Tryd.isAgg99
 z51:=Tryd.sizeOf99
 v51:=Tryd.zeroValue99
 t53:=Tryd.underlying89
 a53:=Tryd.isAgg89
 z53:=Tryd.sizeOf89
 v53:=Tryd.zeroValue89
 t171:=Tryd.underlying88
 a171:=Tryd.isAgg88
 z171:=Tryd.sizeOf88
 v171:=Tryd.zeroValue88
 t173:=Tryd.underlying92
 a173:=Tryd.isAgg92
 z173:=Tryd.sizeOf92
 v173:=Tryd.zeroValue92
 t212:=Tryd.underlying98
 a212:=Tryd.isAgg98
 z212:=Tryd.sizeOf98
 v212:=Tryd.zeroValue98
 t213:=Tryd.underlying100
 a213:=Tryd.isAgg100
 z213:=Tryd.sizeOf100
 t232:=Tryd.underlying109
 a232:=Tryd.isAgg109
 z232:=Tryd.sizeOf109
 v232:=Tryd.zeroValue109
 t233:=Tryd.underlying110
 a233:=Tryd.isAgg110
 z233:=Tryd.sizeOf110
 v233:=Tryd.zeroValue110
 g17:=by kernel_rfl
 g18:=by kernel_rfl
 g19:=by kernel_rfl
 i0:=by kernel_rfl
 i2:=by kernel_rfl
 i3:=by kernel_rfl
 i4:=by kernel_rfl
 i5:=by kernel_rfl
 i9:=by kernel_rfl
 i20:=by kernel_rfl
 i37:=by kernel_rfl
 i46:=by kernel_rfl
 i51:=by kernel_rfl
 i53:=by kernel_rfl
 i171:=by kernel_rfl
 i173:=by kernel_rfl
 i212:=by kernel_rfl
 i232:=by kernel_rfl
 i233:=by kernel_rfl
 m17:=by kernel_rfl
 m18:=by kernel_rfl
 m19:=by kernel_rfl}
open Go.RowKit Go.Sort Go.Lib in
theorem Tryd.strconv_Itoa (n:Int)(h0:-9223372036854775808≤n)(h1:n≤9223372036854775807)(w:World)(htab:Lib.TabIs Tryd.prog w "internal/strconv.uint64pow10" .u64 Lib.pow10Tab):
  Calls Tryd.prog 60 #[.int .i64 n] w fun e w'=>e=.returned (.string ⟨(Lib.itoa n).toArray⟩)∧∃ k os,w'=grow (w.drewN k) os:=Any.strconv_Itoa Tryd.laysM171 n h0 h1 w htab
def Tryd.lays138_ren:Go.Shelf.Ren:=⟨fun | 138=>84 | 195=>93 | 218=>95 | 143=>85 | 219=>73 | 217=>79 | 225=>80 | 224=>81 | 267=>82 | 266=>91 | 314=>92 | n=>n,fun | 9=>9 | 3=>3 | 4=>4 | 5=>5 | 0=>0 | 46=>42 | 146=>103 | 51=>99 | n=>n,fun | 1=>0 | n=>n⟩
theorem Tryd.lays138:Go.Proofs.Lays.n138 Tryd.prog Tryd.lays138_ren:={
 mixed:=by kernel_rfl
 f138:=Tryd.func84.trans (congrArg some (by kernel_rfl))
 f143:=Tryd.func85.trans (congrArg some (by kernel_rfl))
 f195:=Tryd.func93.trans (congrArg some (by kernel_rfl))
 f217:=Tryd.func79.trans (congrArg some (by kernel_rfl))
 f218:=Tryd.func95.trans (congrArg some (by kernel_rfl))
 f219:=Tryd.func73.trans (congrArg some (by kernel_rfl))
 f224:=Tryd.func81.trans (congrArg some (by kernel_rfl))
 f225:=Tryd.func80.trans (congrArg some (by kernel_rfl))
 f266:=Tryd.func91.trans (congrArg some (by kernel_rfl))
 f267:=Tryd.func82.trans (congrArg some (by kernel_rfl))
 f314:=Tryd.func92.trans (congrArg some (by kernel_rfl))
 t0:=Tryd.underlying0
 a0:=Tryd.isAgg0
 z0:=Tryd.sizeOf0
 v0:=Tryd.zeroValue0
 t3:=Tryd.underlying3
 a3:=Tryd.isAgg3
 z3:=Tryd.sizeOf3
 v3:=Tryd.zeroValue3
 t4:=Tryd.underlying4
 a4:=Tryd.isAgg4
 z4:=Tryd.sizeOf4
 v4:=Tryd.zeroValue4
 t5:=Tryd.underlying5
 a5:=Tryd.isAgg5
 z5:=Tryd.sizeOf5
 v5:=Tryd.zeroValue5
 t9:=Tryd.underlying9
 a9:=Tryd.isAgg9
 z9:=Tryd.sizeOf9
 v9:=Tryd.zeroValue9
 t46:=Tryd.underlying42
 a46:=Tryd.isAgg42
 z46:=Tryd.sizeOf42
 v46:=Tryd.zeroValue42
 t51:=Tryd.underlying99
 a51:=Tryd.isAgg99
 z51:=Tryd.sizeOf99
 v51:=Tryd.zeroValue99
 t146:=Tryd.underlying103
 a146:=Tryd.isAgg103
 z146:=Tryd.sizeOf103
 v146:=Tryd.zeroValue103
 g1:=by kernel_rfl}
open Go.RowKit Go.Lib in
theorem Tryd.strings_Count_one (s:ByteArray)(c:UInt8)(w:World):
  Calls Tryd.prog 84 #[.string s,.string ⟨#[c]⟩] w fun e w'=>e=.returned (.int .i64 (Lib.countByte s.data.toList c))∧w'=w:=Any.strings_Count_one Tryd.lays138 s c w
theorem qco (s:ByteArray)(c:Int)(w:World):
  Calls Tryd.prog 79 #[.string s,.int .u8 c] w fun e w'=>e=.returned (.int .i64 (Lib.indexByte s.data.toList c.toNat.toUInt8))∧w'=w:=by
 go_enter Tryd.func79,Tryd.ntmps79
 go_wp2
 rw[run_callFunc_extern Tryd.func91 (by kernel_rfl) (by kernel_rfl) (by kernel_rfl) (e:=Extern.BytealgIndexByte.indexByte) (by kernel_rfl),Lib.run_indexByteString]
 simp only[Result.andThen]
 rw[Oper.upon_value]
 go_wp2
 go_ret
 exact⟨rfl,rfl⟩
end Go.Proofs
namespace Go.Ev
open Go Go.Proofs
def OkT:Nat→World→Prop:=OkTab Tryd.prog 1
theorem okT:Stable OkT:=qsa (by kernel_rfl)
theorem qac:Tryd.prog.follows .mixedOrders=true:=by kernel_rfl
def qkx:Run | [.one (.sc (.string s)),.one (.sc (.int .u8 c))],H=>some ([.one (.sc (.int .i64 (Lib.indexByte s.data.toList c.toNat.toUInt8)))],H) | _,_=>none
theorem ok_fbb:FnOk Tryd.prog OkT qmcb qkx:=by
 intro args H r h g B w vs hOk hh hB ha
 unfold qkx at h
 split at h
 ·rename_i s c
  simp only[Option.some.injEq] at h
  subst h
  cases ha with
  | cons a1 t1=>cases t1 with
   | cons a2 t2=>cases t2 with
    | nil=>
     cases a1 with
     | one _ _ h1=>cases a2 with
      | one _ _ h2=>
       cases h1;cases h2
       refine(qco s c w).mono fun e w' ⟨he,hw⟩=>⟨_,he,g,?_,?_,?_⟩
       ·rw[hw];exact .refl _ _
       ·rw[hw];exact hh
       ·rw[hw];exact .av _ _ (.one _ _ (.sc _ rfl))
 ·simp at h
noncomputable def qtl:Run:=qiy
theorem ok_fcs:FnOk Tryd.prog OkT qmlb qtl:=qusb fun n h0 h1 _ w h=>Tryd.strconv_Itoa n h0 h1 w h.2
noncomputable def qvg:Run:=qgd
theorem ok_fct:FnOk Tryd.prog OkT qlrb qvg:=qtxb Tryd.strings_Count_one
end Go.Ev
