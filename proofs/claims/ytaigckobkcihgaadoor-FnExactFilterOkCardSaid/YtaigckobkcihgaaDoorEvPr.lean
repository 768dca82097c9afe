/- Functions of the library that are taken off the shelf, and what all functions here share. Conditions: none. -/
import Derived.Test.YtaigckobkcihgaaDoorEvFi
import Derived.Test.YtaigckobkcihgaaDoorEvLaw
import Derived.Lib.Strings
import Derived.Lib.Slices
import Derived.Lib.Walk
import Derived.Lib.Bytealg
import Derived.KernelRfl
import Derived.Shelf.Slices.CompactS
import Derived.Shelf.Slices.In.SortNone
import Derived.Shelf.Sort.Plain
import Derived.Shelf.Strings.Count
import Derived.Test.YtaigckobkcihgaaDoorEvSort
namespace Go.Proofs
set_option maxHeartbeats 1000000
set_option maxRecDepth 100000
open Go.Shelf
def Tryd.lays138_ren : Go.Shelf.Ren := ⟨fun | 138 => 214 | 195 => 236 | 218 => 238 | 143 => 215 | 219 => 164 | 217 => 209 | 225 => 210 | 224 => 211 | 267 => 212 | 266 => 234 | 314 => 235 | n => n, fun | 9 => 9 | 3 => 3 | 4 => 4 | 5 => 5 | 0 => 0 | 46 => 106 | 146 => 224 | 51 => 223 | n => n, fun | 1 => 0 | n => n⟩
theorem Tryd.lays138 : Go.Proofs.Lays.n138 Tryd.prog Tryd.lays138_ren := {
  mixed := by kernel_rfl
  f138 := Tryd.func214.trans (congrArg some (by kernel_rfl))
  f143 := Tryd.func215.trans (congrArg some (by kernel_rfl))
  f195 := Tryd.func236.trans (congrArg some (by kernel_rfl))
  f217 := Tryd.func209.trans (congrArg some (by kernel_rfl))
  f218 := Tryd.func238.trans (congrArg some (by kernel_rfl))
  f219 := Tryd.func164.trans (congrArg some (by kernel_rfl))
  f224 := Tryd.func211.trans (congrArg some (by kernel_rfl))
  f225 := Tryd.func210.trans (congrArg some (by kernel_rfl))
  f266 := Tryd.func234.trans (congrArg some (by kernel_rfl))
  f267 := Tryd.func212.trans (congrArg some (by kernel_rfl))
  f314 := Tryd.func235.trans (congrArg some (by kernel_rfl))
  t0 := Tryd.underlying0
  a0 := Tryd.isAgg0
  z0 := Tryd.sizeOf0
  v0 := Tryd.zeroValue0
  t3 := Tryd.underlying3
  a3 := Tryd.isAgg3
  z3 := Tryd.sizeOf3
  v3 := Tryd.zeroValue3
  t4 := Tryd.underlying4
  a4 := Tryd.isAgg4
  z4 := Tryd.sizeOf4
  v4 := Tryd.zeroValue4
  t5 := Tryd.underlying5
  a5 := Tryd.isAgg5
  z5 := Tryd.sizeOf5
  v5 := Tryd.zeroValue5
  t9 := Tryd.underlying9
  a9 := Tryd.isAgg9
  z9 := Tryd.sizeOf9
  v9 := Tryd.zeroValue9
  t46 := Tryd.underlying106
  a46 := Tryd.isAgg106
  z46 := Tryd.sizeOf106
  v46 := Tryd.zeroValue106
  t51 := Tryd.underlying223
  a51 := Tryd.isAgg223
  z51 := Tryd.sizeOf223
  v51 := Tryd.zeroValue223
  t146 := Tryd.underlying224
  a146 := Tryd.isAgg224
  z146 := Tryd.sizeOf224
  v146 := Tryd.zeroValue224
  g1 := by kernel_rfl }
open Go.RowKit Go.Lib in
theorem Tryd.strings_Count_one (s : ByteArray) (c : UInt8) (w : World) :
    Calls Tryd.prog 214 #[.string s, .string ⟨#[c]⟩] w fun e w' => e = .returned (.int .i64 (Lib.countByte s.data.toList c)) ∧ w' = w := Any.strings_Count_one Tryd.lays138 s c w
def Tryd.lays190_ren : Go.Shelf.Ren := ⟨fun | 190 => 181 | 125 => 224 | 258 => 223 | 128 => 251 | 129 => 252 | 302 => 242 | 303 => 243 | 304 => 244 | 305 => 245 | 306 => 246 | 307 => 247 | 308 => 248 | 309 => 249 | 310 => 250 | 333 => 258 | 329 => 259 | 330 => 260 | 334 => 261 | 335 => 262 | 336 => 263 | 344 => 269 | n => n, fun | 31 => 23 | 9 => 9 | 3 => 3 | 46 => 106 | 0 => 0 | 51 => 223 | 53 => 239 | 4 => 4 | 183 => 232 | 182 => 231 | 131 => 114 | 5 => 5 | 218 => 243 | 222 => 144 | 228 => 256 | 229 => 257 | n => n, fun | n => n⟩
theorem Tryd.lays190 : Go.Proofs.Lays.n190 Tryd.prog Tryd.lays190_ren := {
  mixed := by kernel_rfl
  f125 := Tryd.func224.trans (congrArg some (by kernel_rfl))
  f128 := Tryd.func251.trans (congrArg some (by kernel_rfl))
  f129 := Tryd.func252.trans (congrArg some (by kernel_rfl))
  f190 := Tryd.func181.trans (congrArg some (by kernel_rfl))
  f258 := Tryd.func223.trans (congrArg some (by kernel_rfl))
  f302 := Tryd.func242.trans (congrArg some (by kernel_rfl))
  f303 := Tryd.func243.trans (congrArg some (by kernel_rfl))
  f304 := Tryd.func244.trans (congrArg some (by kernel_rfl))
  f305 := Tryd.func245.trans (congrArg some (by kernel_rfl))
  f306 := Tryd.func246.trans (congrArg some (by kernel_rfl))
  f307 := Tryd.func247.trans (congrArg some (by kernel_rfl))
  f308 := Tryd.func248.trans (congrArg some (by kernel_rfl))
  f309 := Tryd.func249.trans (congrArg some (by kernel_rfl))
  f310 := Tryd.func250.trans (congrArg some (by kernel_rfl))
  f329 := Tryd.func259.trans (congrArg some (by kernel_rfl))
  f330 := Tryd.func260.trans (congrArg some (by kernel_rfl))
  f333 := Tryd.func258.trans (congrArg some (by kernel_rfl))
  f334 := Tryd.func261.trans (congrArg some (by kernel_rfl))
  f335 := Tryd.func262.trans (congrArg some (by kernel_rfl))
  f336 := Tryd.func263.trans (congrArg some (by kernel_rfl))
  f344 := Tryd.func269.trans (congrArg some (by kernel_rfl))
  t0 := Tryd.underlying0
  a0 := Tryd.isAgg0
  z0 := Tryd.sizeOf0
  v0 := Tryd.zeroValue0
  t3 := Tryd.underlying3
  a3 := Tryd.isAgg3
  z3 := Tryd.sizeOf3
  v3 := Tryd.zeroValue3
  t4 := Tryd.underlying4
  a4 := Tryd.isAgg4
  z4 := Tryd.sizeOf4
  v4 := Tryd.zeroValue4
  t5 := Tryd.underlying5
  a5 := Tryd.isAgg5
  z5 := Tryd.sizeOf5
  v5 := Tryd.zeroValue5
  t9 := Tryd.underlying9
  a9 := Tryd.isAgg9
  z9 := Tryd.sizeOf9
  v9 := Tryd.zeroValue9
  t31 := Tryd.underlying23
  a31 := Tryd.isAgg23
  z31 := Tryd.sizeOf23
  v31 := Tryd.zeroValue23
  t46 := Tryd.underlying106
  a46 := Tryd.isAgg106
  z46 := Tryd.sizeOf106
  v46 := Tryd.zeroValue106
  t51 := Tryd.underlying223
  a51 := Tryd.isAgg223
  z51 := Tryd.sizeOf223
  v51 := Tryd.zeroValue223
  t53 := Tryd.underlying239
  a53 := Tryd.isAgg239
  z53 := Tryd.sizeOf239
  v53 := Tryd.zeroValue239
  t131 := Tryd.underlying114
  a131 := Tryd.isAgg114
  z131 := Tryd.sizeOf114
  v131 := Tryd.zeroValue114
  t182 := Tryd.underlying231
  a182 := Tryd.isAgg231
  z182 := Tryd.sizeOf231
  v182 := Tryd.zeroValue231
  t183 := Tryd.underlying232
  a183 := Tryd.isAgg232
  z183 := Tryd.sizeOf232
  v183 := Tryd.zeroValue232
  t218 := Tryd.underlying243
  a218 := Tryd.isAgg243
  z218 := Tryd.sizeOf243
  v218 := Tryd.zeroValue243
  t222 := Tryd.underlying144
  a222 := Tryd.isAgg144
  z222 := Tryd.sizeOf144
  v222 := Tryd.zeroValue144
  t228 := Tryd.underlying256
  a228 := Tryd.isAgg256
  z228 := Tryd.sizeOf256
  v228 := Tryd.zeroValue256
  t229 := Tryd.underlying257
  a229 := Tryd.isAgg257
  z229 := Tryd.sizeOf257
  v229 := Tryd.zeroValue257 }
open Go.Sort Go.RowKit in
theorem Tryd.slices_Sort_string (blk off cap : Nat) (ss : List (List UInt8)) (w : World) (hH : Holds encStr w blk off ss.toArray) (hblk : blk < w.heap.size) (hsz : ss.length < 4611686018427387904) :
    Calls Tryd.prog 181 #[.slice (some ⟨blk, off, none⟩) ss.length cap] w fun e w' =>
      e = .returned (.tuple #[]) ∧ ∃ n os, w' = grow (putRow encStr (Sort.ahead w n) blk off (ss.mergeSort fun x y => decide (x ≤ y)).toArray) os := Any.slices_Sort_string Tryd.lays190 blk off cap ss w hH hblk hsz
def Tryd.lays194_ren : Go.Shelf.Ren := ⟨fun | 194 => 183 | n => n, fun | 31 => 23 | 9 => 9 | 3 => 3 | 4 => 4 | 0 => 0 | n => n, fun | n => n⟩
theorem Tryd.lays194 : Go.Proofs.Lays.n194 Tryd.prog Tryd.lays194_ren := {
  mixed := by kernel_rfl
  f194 := Tryd.func183.trans (congrArg some (by kernel_rfl))
  t0 := Tryd.underlying0
  a0 := Tryd.isAgg0
  z0 := Tryd.sizeOf0
  v0 := Tryd.zeroValue0
  t3 := Tryd.underlying3
  a3 := Tryd.isAgg3
  z3 := Tryd.sizeOf3
  v3 := Tryd.zeroValue3
  t4 := Tryd.underlying4
  a4 := Tryd.isAgg4
  z4 := Tryd.sizeOf4
  v4 := Tryd.zeroValue4
  t9 := Tryd.underlying9
  a9 := Tryd.isAgg9
  z9 := Tryd.sizeOf9
  v9 := Tryd.zeroValue9
  t31 := Tryd.underlying23
  a31 := Tryd.isAgg23
  z31 := Tryd.sizeOf23
  v31 := Tryd.zeroValue23 }
open Go.RowKit Go.Lib Go.Sort in
theorem Tryd.slices_Compact_string (blk off cap : Nat) (zs : List (List UInt8)) (w : World) (hH : Holds encStr w blk off zs.toArray) (hsz : zs.length ≤ 9223372036854775807) (hcap : zs.length ≤ cap) :
    Calls Tryd.prog 183 #[.slice (some ⟨blk, off, none⟩) zs.length cap] w fun e w' => e = .returned (.slice (some ⟨blk, off, none⟩) (Lib.compact zs).length cap) ∧ ∃ q, w' = putRow encStr (Sort.ahead w q) blk off (Lib.compact zs ++ List.replicate (zs.length - (Lib.compact zs).length) []).toArray := Any.slices_Compact_string Tryd.lays194 blk off cap zs w hH hsz hcap
open Go.RowKit Go.Lib Go.Sort in
theorem Tryd.slices_Compact_string_empty (a : Option Addr) (cap : Nat) (w : World) :
    Calls Tryd.prog 183 #[.slice a 0 cap] w fun e w' => e = .returned (.slice a 0 cap) ∧ w' = w := Any.slices_Compact_string_empty Tryd.lays194 a cap w
open Go.RowKit Go.Sort in
theorem Tryd.slices_Sort_string_none (p : Option Addr) (cap : Nat) (w : World) :
    Calls Tryd.prog 181 #[.slice p 0 cap] w fun e w' => e = .returned (.tuple #[]) ∧ w' = w := Any.slices_Sort_string_none Tryd.lays190 p cap w

/-- Its way into the library's own text (by the kit's shelf). -/
theorem calls_stringslite_IndexByte (s : ByteArray) (c : Int) (w : World) :
    Calls Tryd.prog 209 #[.string s, .int .u8 c] w fun e w' => e = .returned (.int .i64 (Lib.indexByte s.data.toList c.toNat.toUInt8)) ∧ w' = w := by
  go_enter Tryd.func209, Tryd.ntmps209
  go_wp2
  rw [run_callFunc_extern Tryd.func234 (by kernel_rfl) (by kernel_rfl) (by kernel_rfl) (e := Extern.BytealgIndexByte.indexByte) (by kernel_rfl), Lib.run_indexByteString]
  simp only [Result.andThen]
  rw [Oper.upon_value]
  go_wp2
  go_ret
  exact ⟨rfl, rfl⟩

end Go.Proofs
namespace Go.Ev
open Go Go.Proofs
def OkT : Nat → World → Prop := fun _ _ => True
theorem okT : Stable OkT := fun _ _ _ _ _ _ _ _ _ => trivial
theorem Tryd_mix : Tryd.prog.follows .mixedOrders = true := by kernel_rfl

def run_internal_stringslite_IndexByte : Run
  | [.one (.sc (.string s)), .one (.sc (.int .u8 c))], H => some ([.one (.sc (.int .i64 (Lib.indexByte s.data.toList c.toNat.toUInt8)))], H)
  | _, _ => none
theorem ok_internal_stringslite_IndexByte : FnOk Tryd.prog OkT fid_internal_stringslite_IndexByte run_internal_stringslite_IndexByte := by
  intro args H r h g B w vs hOk hh hB ha
  unfold run_internal_stringslite_IndexByte at h
  split at h
  · rename_i s c
    simp only [Option.some.injEq] at h
    subst h
    cases ha with
    | cons a1 t1 => cases t1 with
      | cons a2 t2 => cases t2 with
        | nil =>
          cases a1 with
          | one _ _ h1 => cases a2 with
            | one _ _ h2 =>
              cases h1; cases h2
              refine (calls_stringslite_IndexByte s c w).mono fun e w' ⟨he, hw⟩ => ⟨_, he, g, ?_, ?_, ?_⟩
              · rw [hw]; exact .refl _ _
              · rw [hw]; exact hh
              · rw [hw]; exact .av _ _ (.one _ _ (.sc _ rfl))
  · simp at h

noncomputable def run_slices_Sort_string : Run := run_sort
theorem ok_slices_Sort_string : FnOk Tryd.prog OkT fid_slices_Sort_string run_slices_Sort_string := sort_ok Tryd.slices_Sort_string Tryd.slices_Sort_string_none
noncomputable def run_strings_Count : Run := run_count
theorem ok_strings_Count : FnOk Tryd.prog OkT fid_strings_Count run_strings_Count := count_ok Tryd.strings_Count_one
noncomputable def run_slices_Compact_string : Run := run_compact
theorem ok_slices_Compact_string : FnOk Tryd.prog OkT fid_slices_Compact_string run_slices_Compact_string := compact_ok Tryd.slices_Compact_string Tryd.slices_Compact_string_empty
end Go.Ev
