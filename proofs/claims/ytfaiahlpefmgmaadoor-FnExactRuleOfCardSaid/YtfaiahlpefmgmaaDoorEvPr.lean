/- Functions of the library that are taken off the shelf, and what all functions here share. Conditions: none. -/
import Derived.Test.YtfaiahlpefmgmaaDoorEvFi
import Derived.Test.YtfaiahlpefmgmaaDoorEvLaw
import Derived.Lib.Strings
import Derived.Lib.Slices
import Derived.Lib.Walk
import Derived.Lib.Bytealg
import Derived.KernelRfl
import Derived.Shelf.Strings.Count
import Derived.Test.YtfaiahlpefmgmaaDoorEvSort
namespace Go.Proofs
set_option maxHeartbeats 1000000
set_option maxRecDepth 100000
open Go.Shelf
def Tryd.lays138_ren:Go.Shelf.Ren:=⟨fun | 138=>72 | 195=>81 | 218=>83 | 143=>73 | 219=>69 | 217=>77 | 225=>78 | 224=>79 | 267=>80 | 266=>84 | 314=>85 | n=>n,fun | 9=>9 | 3=>3 | 4=>4 | 5=>5 | 0=>0 | 46=>77 | 146=>81 | 51=>80 | n=>n,fun | 1=>0 | n=>n⟩
theorem Tryd.lays138:Go.Proofs.Lays.n138 Tryd.prog Tryd.lays138_ren:={
 mixed:=by kernel_rfl
 f138:=Tryd.func72.trans (congrArg some (by kernel_rfl))
 f143:=Tryd.func73.trans (congrArg some (by kernel_rfl))
 f195:=Tryd.func81.trans (congrArg some (by kernel_rfl))
 f217:=Tryd.func77.trans (congrArg some (by kernel_rfl))
 f218:=Tryd.func83.trans (congrArg some (by kernel_rfl))
 f219:=Tryd.func69.trans (congrArg some (by kernel_rfl))
 f224:=Tryd.func79.trans (congrArg some (by kernel_rfl))
 f225:=Tryd.func78.trans (congrArg some (by kernel_rfl))
 f266:=Tryd.func84.trans (congrArg some (by kernel_rfl))
 f267:=Tryd.func80.trans (congrArg some (by kernel_rfl))
 f314:=Tryd.func85.trans (congrArg some (by kernel_rfl))
 t0:=Tryd.underlying0
 a0:=Tryd.isAgg0
 z0:=Tryd.sizeOf0
 v0:=Tryd.zeroValue0
 t3:=Tryd.underlying3
 a3:=Tryd.isAgg3
 z3:=Tryd.sizeOf3
 v3:=Tryd.zeroValue3
 t4:=Tryd.underlying4
 a4:=Tryd.isAgg4
 z4:=Tryd.sizeOf4
 v4:=Tryd.zeroValue4
 t5:=Tryd.underlying5
 a5:=Tryd.isAgg5
 z5:=Tryd.sizeOf5
 v5:=Tryd.zeroValue5
 t9:=Tryd.underlying9
 a9:=Tryd.isAgg9
 z9:=Tryd.sizeOf9
 v9:=Tryd.zeroValue9
 t46:=Tryd.underlying77
 a46:=Tryd.isAgg77
 z46:=Tryd.sizeOf77
 v46:=Tryd.zeroValue77
 t51:=Tryd.underlying80
 a51:=Tryd.isAgg80
 z51:=Tryd.sizeOf80
 v51:=Tryd.zeroValue80
 t146:=Tryd.underlying81
 a146:=Tryd.isAgg81
 z146:=Tryd.sizeOf81
 v146:=Tryd.zeroValue81
 g1:=by kernel_rfl}
open Go.RowKit Go.Lib in
theorem Tryd.strings_Count_one (s:ByteArray)(c:UInt8)(w:World):
  Calls Tryd.prog 72 #[.string s,.string ⟨#[c]⟩] w fun e w'=>e=.returned (.int .i64 (Lib.countByte s.data.toList c))∧w'=w:=Any.strings_Count_one Tryd.lays138 s c w
theorem qdf (s:ByteArray)(c:Int)(w:World):
  Calls Tryd.prog 77 #[.string s,.int .u8 c] w fun e w'=>e=.returned (.int .i64 (Lib.indexByte s.data.toList c.toNat.toUInt8))∧w'=w:=by
 go_enter Tryd.func77,Tryd.ntmps77
 go_wp2
 rw[run_callFunc_extern Tryd.func84 (by kernel_rfl) (by kernel_rfl) (by kernel_rfl) (e:=Extern.BytealgIndexByte.indexByte) (by kernel_rfl),Lib.run_indexByteString]
 simp only[Result.andThen]
 rw[Oper.upon_value]
 go_wp2
 go_ret
 exact⟨rfl,rfl⟩
end Go.Proofs
namespace Go.Ev
open Go Go.Proofs
def OkT:Nat→World→Prop:=fun _ _=>True
theorem okT:Stable OkT:=fun _ _ _ _ _ _ _ _ _=>trivial
theorem qac:Tryd.prog.follows .mixedOrders=true:=by kernel_rfl
def qlj:Run | [.one (.sc (.string s)),.one (.sc (.int .u8 c))],H=>some ([.one (.sc (.int .i64 (Lib.indexByte s.data.toList c.toNat.toUInt8)))],H) | _,_=>none
theorem ok_fbd:FnOk Tryd.prog OkT qmob qlj:=by
 intro args H r h g B w vs hOk hh hB ha
 unfold qlj at h
 split at h
 ·rename_i s c
  simp only[Option.some.injEq] at h
  subst h
  cases ha with
  | cons a1 t1=>cases t1 with
   | cons a2 t2=>cases t2 with
    | nil=>
     cases a1 with
     | one _ _ h1=>cases a2 with
      | one _ _ h2=>
       cases h1;cases h2
       refine(qdf s c w).mono fun e w' ⟨he,hw⟩=>⟨_,he,g,?_,?_,?_⟩
       ·rw[hw];exact .refl _ _
       ·rw[hw];exact hh
       ·rw[hw];exact .av _ _ (.one _ _ (.sc _ rfl))
 ·simp at h
noncomputable def qvx:Run:=qfw
theorem ok_fcs:FnOk Tryd.prog OkT qnkb qvx:=qtqb Tryd.strings_Count_one
end Go.Ev
