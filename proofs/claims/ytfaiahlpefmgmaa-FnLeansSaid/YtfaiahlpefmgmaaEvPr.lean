/- Functions of the library that are taken off the shelf, and what all functions here share. Conditions: none. -/
import Derived.Test.YtfaiahlpefmgmaaEvFi
import Derived.Test.YtfaiahlpefmgmaaEvLaw
import Derived.Lib.Strings
import Derived.Lib.Slices
import Derived.Lib.Walk
import Derived.Lib.Bytealg
import Derived.KernelRfl
import Derived.Shelf.Slices.CompactS
import Derived.Shelf.Slices.In.SortNone
import Derived.Shelf.Sort.Plain
import Derived.Test.YtfaiahlpefmgmaaEvSort
namespace Go.Proofs
set_option maxHeartbeats 1000000
set_option maxRecDepth 100000
open Go.Shelf
def Try.lays190_ren:Go.Shelf.Ren:=⟨fun | 190=>55 | 125=>64 | 258=>63 | 128=>77 | 129=>78 | 302=>68 | 303=>69 | 304=>70 | 305=>71 | 306=>72 | 307=>73 | 308=>74 | 309=>75 | 310=>76 | 333=>79 | 329=>80 | 330=>81 | 334=>82 | 335=>83 | 336=>84 | 344=>85 | n=>n,fun | 31=>22 | 9=>9 | 3=>3 | 46=>92 | 0=>0 | 51=>108 | 53=>110 | 4=>4 | 183=>100 | 182=>99 | 131=>105 | 5=>5 | 218=>111 | 222=>115 | 228=>117 | 229=>118 | n=>n,fun | n=>n⟩
theorem Try.lays190:Go.Proofs.Lays.n190 Try.prog Try.lays190_ren:={
 mixed:=by kernel_rfl
 f125:=Try.func64.trans (congrArg some (by kernel_rfl))
 f128:=Try.func77.trans (congrArg some (by kernel_rfl))
 f129:=Try.func78.trans (congrArg some (by kernel_rfl))
 f190:=Try.func55.trans (congrArg some (by kernel_rfl))
 f258:=Try.func63.trans (congrArg some (by kernel_rfl))
 f302:=Try.func68.trans (congrArg some (by kernel_rfl))
 f303:=Try.func69.trans (congrArg some (by kernel_rfl))
 f304:=Try.func70.trans (congrArg some (by kernel_rfl))
 f305:=Try.func71.trans (congrArg some (by kernel_rfl))
 f306:=Try.func72.trans (congrArg some (by kernel_rfl))
 f307:=Try.func73.trans (congrArg some (by kernel_rfl))
 f308:=Try.func74.trans (congrArg some (by kernel_rfl))
 f309:=Try.func75.trans (congrArg some (by kernel_rfl))
 f310:=Try.func76.trans (congrArg some (by kernel_rfl))
 f329:=Try.func80.trans (congrArg some (by kernel_rfl))
 f330:=Try.func81.trans (congrArg some (by kernel_rfl))
 f333:=Try.func79.trans (congrArg some (by kernel_rfl))
 f334:=Try.func82.trans (congrArg some (by kernel_rfl))
 f335:=Try.func83.trans (congrArg some (by kernel_rfl))
 f336:=Try.func84.trans (congrArg some (by kernel_rfl))
 f344:=Try.func85.trans (congrArg some (by kernel_rfl))
 t0:=Try.underlying0
 a0:=Try.isAgg0
 z0:=Try.sizeOf0
 v0:=Try.zeroValue0
 t3:=Try.underlying3
 a3:=Try.isAgg3
 z3:=Try.sizeOf3
 v3:=Try.zeroValue3
 t4:=Try.underlying4
 a4:=Try.isAgg4
 z4:=Try.sizeOf4
 v4:=Try.zeroValue4
 t5:=Try.underlying5
 a5:=Try.isAgg5
 z5:=Try.sizeOf5
 v5:=Try.zeroValue5
 t9:=Try.underlying9
 a9:=Try.isAgg9
 z9:=Try.sizeOf9
 v9:=Try.zeroValue9
 t31:=Try.underlying22
 a31:=Try.isAgg22
 z31:=Try.sizeOf22
 v31:=Try.zeroValue22
 t46:=Try.underlying92
 a46:=Try.isAgg92
 z46:=Try.sizeOf92
 v46:=Try.zeroValue92
 t51:=Try.underlying108
 a51:=Try.isAgg108
 z51:=Try.sizeOf108
 v51:=Try.zeroValue108
 t53:=Try.underlying110
 a53:=Try.isAgg110
 z53:=Try.sizeOf110
 v53:=Try.zeroValue110
 t131:=Try.underlying105
 a131:=Try.isAgg105
 z131:=Try.sizeOf105
 v131:=Try.zeroValue105
 t182:=Try.underlying99
 a182:=Try.isAgg99
 z182:=Try.sizeOf99
 v182:=Try.zeroValue99
 t183:=Try.underlying100
 a183:=Try.isAgg100
 z183:=Try.sizeOf100
 v183:=Try.zeroValue100
 t218:=Try.underlying111
 a218:=Try.isAgg111
 z218:=Try.sizeOf111
 v218:=Try.zeroValue111
 t222:=Try.underlying115
 a222:=Try.isAgg115
 z222:=Try.sizeOf115
 v222:=Try.zeroValue115
 t228:=Try.underlying117
 a228:=Try.isAgg117
 z228:=Try.sizeOf117
 v228:=Try.zeroValue117
 t229:=Try.underlying118
 a229:=Try.isAgg118
 z229:=Try.sizeOf118
 v229:=Try.zeroValue118}
open Go.Sort Go.RowKit in
theorem Try.slices_Sort_string (blk off cap:Nat)(ss:List (List UInt8))(w:World)(hH:Holds encStr w blk off ss.toArray)(hblk:blk < w.heap.size)(hsz:ss.length < 4611686018427387904):
  Calls Try.prog 55 #[.slice (some ⟨blk,off,none⟩) ss.length cap] w fun e w'=>
   e=.returned (.tuple #[])∧∃ n os,w'=grow (putRow encStr (Sort.ahead w n) blk off (ss.mergeSort fun x y=>decide (x≤y)).toArray) os:=Any.slices_Sort_string Try.lays190 blk off cap ss w hH hblk hsz
def Try.lays194_ren:Go.Shelf.Ren:=⟨fun | 194=>57 | n=>n,fun | 31=>22 | 9=>9 | 3=>3 | 4=>4 | 0=>0 | n=>n,fun | n=>n⟩
theorem Try.lays194:Go.Proofs.Lays.n194 Try.prog Try.lays194_ren:={
 mixed:=by kernel_rfl
 f194:=Try.func57.trans (congrArg some (by kernel_rfl))
 t0:=Try.underlying0
 a0:=Try.isAgg0
 z0:=Try.sizeOf0
 v0:=Try.zeroValue0
 t3:=Try.underlying3
 a3:=Try.isAgg3
 z3:=Try.sizeOf3
 v3:=Try.zeroValue3
 t4:=Try.underlying4
 a4:=Try.isAgg4
 z4:=Try.sizeOf4
 v4:=Try.zeroValue4
 t9:=Try.underlying9
 a9:=Try.isAgg9
 z9:=Try.sizeOf9
 v9:=Try.zeroValue9
 t31:=Try.underlying22
 a31:=Try.isAgg22
 z31:=Try.sizeOf22
 v31:=Try.zeroValue22}
open Go.RowKit Go.Lib Go.Sort in
theorem Try.slices_Compact_string (blk off cap:Nat)(zs:List (List UInt8))(w:World)(hH:Holds encStr w blk off zs.toArray)(hsz:zs.length≤9223372036854775807)(hcap:zs.length≤cap):
  Calls Try.prog 57 #[.slice (some ⟨blk,off,none⟩) zs.length cap] w fun e w'=>e=.returned (.slice (some ⟨blk,off,none⟩) (Lib.compact zs).length cap)∧∃ q,w'=putRow encStr (Sort.ahead w q) blk off (Lib.compact zs++List.replicate (zs.length - (Lib.compact zs).length) []).toArray:=Any.slices_Compact_string Try.lays194 blk off cap zs w hH hsz hcap
open Go.RowKit Go.Lib Go.Sort in
theorem Try.slices_Compact_string_empty (a:Option Addr)(cap:Nat)(w:World):
  Calls Try.prog 57 #[.slice a 0 cap] w fun e w'=>e=.returned (.slice a 0 cap)∧w'=w:=Any.slices_Compact_string_empty Try.lays194 a cap w
open Go.RowKit Go.Sort in
theorem Try.slices_Sort_string_none (p:Option Addr)(cap:Nat)(w:World):
  Calls Try.prog 55 #[.slice p 0 cap] w fun e w'=>e=.returned (.tuple #[])∧w'=w:=Any.slices_Sort_string_none Try.lays190 p cap w
end Go.Proofs
namespace Go.Ev
open Go Go.Proofs
def OkT:Nat→World→Prop:=fun _ _=>True
theorem okT:Stable OkT:=fun _ _ _ _ _ _ _ _ _=>trivial
theorem qam:Try.prog.follows .mixedOrders=true:=by kernel_rfl
noncomputable def qoo:Run:=qjf
theorem ok_fbd:FnOk Try.prog OkT qfqb qoo:=qnob Try.slices_Sort_string Try.slices_Sort_string_none
noncomputable def qmo:Run:=qea
theorem ok_fay:FnOk Try.prog OkT qfab qmo:=qyf Try.slices_Compact_string Try.slices_Compact_string_empty
end Go.Ev
