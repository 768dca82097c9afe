/- Functions of the library that are taken off the shelf, and what all functions here share. Conditions: none. -/
import Derived.Test.YtohfdpklicamkaaDoorEvFi
import Derived.Test.YtohfdpklicamkaaDoorEvLaw
import Derived.Lib.Strings
import Derived.Lib.Slices
import Derived.Lib.Walk
import Derived.Test.YtohfdpklicamkaaDoorEvBld
import Derived.Shelf.Strings.Builder1
import Derived.Shelf.Strings.BuilderK
import Derived.Lib.Bytealg
import Derived.KernelRfl
import Derived.Shelf.Strconv.Itoa3
import Derived.Shelf.Strings.OnBuilder
import Derived.Test.YtohfdpklicamkaaDoorEvSort
import Derived.Test.YtohfdpklicamkaaDoorEvNum
import Derived.Test.YtohfdpklicamkaaDoorEvJoin
namespace Go.Proofs
set_option maxHeartbeats 1000000
set_option maxRecDepth 100000
open Go.Shelf
def Tryd.lays156_ren : Go.Shelf.Ren := ⟨fun | 156 => 100 | 165 => 150 | 166 => 49 | 169 => 51 | 240 => 113 | 241 => 179 | 276 => 160 | 277 => 203 | n => n, fun | 31 => 30 | 9 => 9 | 3 => 3 | 4 => 4 | 0 => 0 | 20 => 20 | 72 => 88 | 76 => 92 | 70 => 86 | 37 => 51 | 75 => 91 | 127 => 155 | 164 => 188 | 5 => 5 | 80 => 94 | n => n, fun | n => n⟩
theorem Tryd.lays156 : Go.Proofs.Lays.n156 Tryd.prog Tryd.lays156_ren := {
  mixed := by kernel_rfl
  f156 := Tryd.func100.trans (congrArg some (by kernel_rfl))
  f165 := Tryd.func150.trans (congrArg some (by kernel_rfl))
  f166 := Tryd.func49.trans (congrArg some (by kernel_rfl))
  f169 := Tryd.func51.trans (congrArg some (by kernel_rfl))
  f240 := Tryd.func113.trans (congrArg some (by kernel_rfl))
  f241 := Tryd.func179.trans (congrArg some (by kernel_rfl))
  f276 := Tryd.func160.trans (congrArg some (by kernel_rfl))
  f277 := Tryd.func203.trans (congrArg some (by kernel_rfl))
  t0 := Tryd.underlying0
  a0 := Tryd.isAgg0
  z0 := Tryd.sizeOf0
  v0 := Tryd.zeroValue0
  t3 := Tryd.underlying3
  a3 := Tryd.isAgg3
  z3 := Tryd.sizeOf3
  v3 := Tryd.zeroValue3
  t4 := Tryd.underlying4
  a4 := Tryd.isAgg4
  z4 := Tryd.sizeOf4
  v4 := Tryd.zeroValue4
  t9 := Tryd.underlying9
  a9 := Tryd.isAgg9
  z9 := Tryd.sizeOf9
  v9 := Tryd.zeroValue9
  t20 := Tryd.underlying20
  a20 := Tryd.isAgg20
  z20 := Tryd.sizeOf20
  v20 := Tryd.zeroValue20
  t31 := Tryd.underlying30
  a31 := Tryd.isAgg30
  z31 := Tryd.sizeOf30
  v31 := Tryd.zeroValue30
  t37 := Tryd.underlying51
  a37 := Tryd.isAgg51
  z37 := Tryd.sizeOf51
  v37 := Tryd.zeroValue51
  t70 := Tryd.underlying86
  a70 := Tryd.isAgg86
  z70 := Tryd.sizeOf86
  v70 := Tryd.zeroValue86
  t72 := Tryd.underlying88
  a72 := Tryd.isAgg88
  z72 := Tryd.sizeOf88
  v72 := Tryd.zeroValue88
  t75 := Tryd.underlying91
  a75 := Tryd.isAgg91
  z75 := Tryd.sizeOf91
  v75 := Tryd.zeroValue91
  t76 := Tryd.underlying92
  a76 := Tryd.isAgg92
  z76 := Tryd.sizeOf92
  v76 := Tryd.zeroValue92
  t127 := Tryd.underlying155
  a127 := Tryd.isAgg155
  z127 := Tryd.sizeOf155
  v127 := Tryd.zeroValue155
  t164 := Tryd.underlying188
  a164 := Tryd.isAgg188
  z164 := Tryd.sizeOf188
  v164 := Tryd.zeroValue188 }
theorem Tryd.Builder_Extra_156 : Builder.Extra Tryd.prog Tryd.lays156_ren := {
  sizeBuilder := by kernel_rfl
  liesBuilder := by kernel_rfl
  t5 := Tryd.underlying5
  a5 := Tryd.isAgg5
  z5 := Tryd.sizeOf5
  v5 := Tryd.zeroValue5
  infoByte := by kernel_rfl
  cellsByte := by kernel_rfl
  sizeByte := by kernel_rfl
  neB5 := by decide }
open Go.RowKit in
theorem Tryd.strings_Join_none (a : Option Addr) (c : Nat) (sep : ByteArray) (w : World) :
    Calls Tryd.prog 100 #[.slice a 0 c, .string sep] w fun e w' => e = .returned (.string ⟨#[]⟩) ∧ w' = w := Any.strings_Join_none Tryd.lays156 Tryd.Builder_Extra_156 a c sep w
open Go.RowKit in
theorem Tryd.strings_Join (bk o c : Nat) (xs : List ByteArray) (sep : ByteArray) (w : World) (hcells : ∀ (j : Nat) x, xs[j]? = some x → w.cell? ⟨bk, o + j, none⟩ = some (.string x)) (hbk : bk < w.heap.size) (hN : xs.length ≤ 140737488355328) (hcap : xs.length ≤ c) (hlen : (Lib.join (xs.map (·.data.toList)) sep.data.toList).length ≤ 140737488355328) :
    Calls Tryd.prog 100 #[.slice (some ⟨bk, o, none⟩) xs.length c, .string sep] w fun e w' => e = .returned (.string ⟨(Lib.join (xs.map (·.data.toList)) sep.data.toList).toArray⟩) ∧ Below w.heap.size w w' := Any.strings_Join Tryd.lays156 Tryd.Builder_Extra_156 bk o c xs sep w hcells hbk hN hcap hlen
def Tryd.laysM171_ren : Go.Shelf.Ren := ⟨fun | 171 => 161 | 243 => 186 | 246 => 208 | 283 => 219 | 284 => 220 | 285 => 221 | 286 => 222 | 129 => 226 | 317 => 225 | 318 => 227 | 319 => 228 | 320 => 229 | 337 => 230 | 338 => 231 | n => n, fun | 3 => 3 | 9 => 9 | 2 => 2 | 4 => 4 | 171 => 217 | 0 => 0 | 53 => 218 | 37 => 51 | 5 => 5 | 173 => 221 | 212 => 224 | 51 => 211 | 20 => 20 | 213 => 225 | 46 => 120 | 232 => 233 | 233 => 234 | n => n, fun | 17 => 1 | 18 => 4 | 19 => 5 | n => n⟩
theorem Tryd.laysM171 : Go.Proofs.LaysM.n171 Tryd.prog Tryd.laysM171_ren := {
  mixed := by kernel_rfl
  f129 := Tryd.func226.trans (congrArg some (by kernel_rfl))
  f171 := Tryd.func161.trans (congrArg some (by kernel_rfl))
  f243 := Tryd.func186.trans (congrArg some (by kernel_rfl))
  f246 := Tryd.func208.trans (congrArg some (by kernel_rfl))
  f283 := Tryd.func219.trans (congrArg some (by kernel_rfl))
  f284 := Tryd.func220.trans (congrArg some (by kernel_rfl))
  f285 := Tryd.func221.trans (congrArg some (by kernel_rfl))
  f286 := Tryd.func222.trans (congrArg some (by kernel_rfl))
  f317 := Tryd.func225.trans (congrArg some (by kernel_rfl))
  f318 := Tryd.func227.trans (congrArg some (by kernel_rfl))
  f319 := Tryd.func228.trans (congrArg some (by kernel_rfl))
  f320 := Tryd.func229.trans (congrArg some (by kernel_rfl))
  f337 := Tryd.func230.trans (congrArg some (by kernel_rfl))
  f338 := Tryd.func231.trans (congrArg some (by kernel_rfl))
  t0 := Tryd.underlying0
  a0 := Tryd.isAgg0
  z0 := Tryd.sizeOf0
  v0 := Tryd.zeroValue0
  t2 := Tryd.underlying2
  a2 := Tryd.isAgg2
  z2 := Tryd.sizeOf2
  v2 := Tryd.zeroValue2
  t3 := Tryd.underlying3
  a3 := Tryd.isAgg3
  z3 := Tryd.sizeOf3
  v3 := Tryd.zeroValue3
  t4 := Tryd.underlying4
  a4 := Tryd.isAgg4
  z4 := Tryd.sizeOf4
  v4 := Tryd.zeroValue4
  t5 := Tryd.underlying5
  a5 := Tryd.isAgg5
  z5 := Tryd.sizeOf5
  v5 := Tryd.zeroValue5
  t9 := Tryd.underlying9
  a9 := Tryd.isAgg9
  z9 := Tryd.sizeOf9
  v9 := Tryd.zeroValue9
  t20 := Tryd.underlying20
  a20 := Tryd.isAgg20
  z20 := Tryd.sizeOf20
  v20 := Tryd.zeroValue20
  t37 := Tryd.underlying51
  a37 := Tryd.isAgg51
  z37 := Tryd.sizeOf51
  v37 := Tryd.zeroValue51
  t46 := Tryd.underlying120
  a46 := Tryd.isAgg120
  z46 := Tryd.sizeOf120
  v46 := Tryd.zeroValue120
  t51 := Tryd.underlying211
  a51 := Tryd.isAgg211
  z51 := Tryd.sizeOf211
  v51 := Tryd.zeroValue211
  t53 := Tryd.underlying218
  a53 := Tryd.isAgg218
  z53 := Tryd.sizeOf218
  v53 := Tryd.zeroValue218
  t171 := Tryd.underlying217
  a171 := Tryd.isAgg217
  z171 := Tryd.sizeOf217
  v171 := Tryd.zeroValue217
  t173 := Tryd.underlying221
  a173 := Tryd.isAgg221
  z173 := Tryd.sizeOf221
  v173 := Tryd.zeroValue221
  t212 := Tryd.underlying224
  a212 := Tryd.isAgg224
  z212 := Tryd.sizeOf224
  v212 := Tryd.zeroValue224
  t213 := Tryd.underlying225
  a213 := Tryd.isAgg225
  z213 := Tryd.sizeOf225
  t232 := Tryd.underlying233
  a232 := Tryd.isAgg233
  z232 := Tryd.sizeOf233
  v232 := Tryd.zeroValue233
  t233 := Tryd.underlying234
  a233 := Tryd.isAgg234
  z233 := Tryd.sizeOf234
  v233 := Tryd.zeroValue234
  g17 := by kernel_rfl
  g18 := by kernel_rfl
  g19 := by kernel_rfl
  i0 := by kernel_rfl
  i2 := by kernel_rfl
  i3 := by kernel_rfl
  i4 := by kernel_rfl
  i5 := by kernel_rfl
  i9 := by kernel_rfl
  i20 := by kernel_rfl
  i37 := by kernel_rfl
  i46 := by kernel_rfl
  i51 := by kernel_rfl
  i53 := by kernel_rfl
  i171 := by kernel_rfl
  i173 := by kernel_rfl
  i212 := by kernel_rfl
  i232 := by kernel_rfl
  i233 := by kernel_rfl
  m17 := by kernel_rfl
  m18 := by kernel_rfl
  m19 := by kernel_rfl }
open Go.RowKit Go.Sort Go.Lib in
theorem Tryd.strconv_Itoa (n : Int) (h0 : -9223372036854775808 ≤ n) (h1 : n ≤ 9223372036854775807) (w : World) (htab : Lib.TabIs Tryd.prog w "internal/strconv.uint64pow10" .u64 Lib.pow10Tab) :
    Calls Tryd.prog 161 #[.int .i64 n] w fun e w' => e = .returned (.string ⟨(Lib.itoa n).toArray⟩) ∧ ∃ k os, w' = grow (w.drewN k) os := Any.strconv_Itoa Tryd.laysM171 n h0 h1 w htab
open Go.Shelf Go.RowKit
theorem Tryd.bld_size : (Tryd.prog.info? 88).map (·.size) = some 2 := by kernel_rfl
theorem Tryd.bld_lies : liesAt Tryd.prog Tryd.prog.depth 88 (2 / Tryd.prog.cellsOf 88) 0 88 1 = true := by kernel_rfl
theorem Tryd.copyCheck_used (b : Nat) (w : World) (h0 : w.cell? ⟨b, 0, none⟩ = some (.pointer (some ⟨b, 0, none⟩))) :
    Calls Tryd.prog 113 #[.pointer (some ⟨b, 0, none⟩)] w fun e w' => e = .returned (.tuple #[]) ∧ w' = w := by
  obtain ⟨j, hj, _⟩ := Option.map_eq_some_iff.1 Tryd.bld_size
  have t72 := Tryd.underlying88; have a72 := Tryd.isAgg88; have z72 := Tryd.sizeOf88; have v72 := Tryd.zeroValue88; have u72 := run_underlying Tryd.underlying88
  have t70 := Tryd.underlying86; have a70 := Tryd.isAgg86; have z70 := Tryd.sizeOf86; have v70 := Tryd.zeroValue86; have u70 := run_underlying Tryd.underlying86
  have t4 := Tryd.underlying4; have a4 := Tryd.isAgg4; have z4 := Tryd.sizeOf4; have v4 := Tryd.zeroValue4; have u4 := run_underlying Tryd.underlying4
  have t164 := Tryd.underlying188; have a164 := Tryd.isAgg188; have z164 := Tryd.sizeOf188; have v164 := Tryd.zeroValue188; have u164 := run_underlying Tryd.underlying188
  go_enter Tryd.func113, Tryd.ntmps113
  go_wp2
  rw [Lib.run_neq_ptr_same w _ Tryd.underlying86 hj]
  go_wp2
  go_end0
  exact ⟨rfl, rfl⟩
theorem Tryd.copyCheck_fresh (b : Nat) (w : World) (h0 : w.cell? ⟨b, 0, none⟩ = some (.pointer none)) (hsh : w.shape? b = some (88, 2)) (hfz : w.frozen? ⟨b, 0, none⟩ = false) :
    Calls Tryd.prog 113 #[.pointer (some ⟨b, 0, none⟩)] w fun e w' => e = .returned (.tuple #[]) ∧ w' = w.setCell ⟨b, 0, none⟩ (.pointer (some ⟨b, 0, none⟩)) := by
  obtain ⟨j, hj, hjs⟩ := Option.map_eq_some_iff.1 Tryd.bld_size
  have t72 := Tryd.underlying88; have a72 := Tryd.isAgg88; have z72 := Tryd.sizeOf88; have v72 := Tryd.zeroValue88; have u72 := run_underlying Tryd.underlying88
  have t70 := Tryd.underlying86; have a70 := Tryd.isAgg86; have z70 := Tryd.sizeOf86; have v70 := Tryd.zeroValue86; have u70 := run_underlying Tryd.underlying86
  have t4 := Tryd.underlying4; have a4 := Tryd.isAgg4; have z4 := Tryd.sizeOf4; have v4 := Tryd.zeroValue4; have u4 := run_underlying Tryd.underlying4
  have t164 := Tryd.underlying188; have a164 := Tryd.isAgg188; have z164 := Tryd.sizeOf188; have v164 := Tryd.zeroValue188; have u164 := run_underlying Tryd.underlying188
  go_enter Tryd.func113, Tryd.ntmps113
  go_wp2
  rw [Lib.run_to_unsafe w ⟨b, 0, none⟩ Tryd.underlying86 Tryd.underlying188 hj (by rw [hjs]; decide) hsh (Nat.zero_lt_succ 1)]
  simp only [Result.andThen]
  rw [Oper.upon_value]
  go_wp2
  rw [run_callFunc_extern Tryd.func160 (by kernel_rfl) (by kernel_rfl) (by kernel_rfl) (e := Extern.AbiNoEscape.same) (by kernel_rfl)]
  rw [Lib.run_noEscape]
  simp only [Result.andThen]
  rw [Oper.upon_value]
  go_wp2
  rw [Lib.run_from_unsafe w ⟨b, 0, none⟩ Tryd.underlying188 Tryd.underlying86 hj hsh Tryd.bld_lies]
  simp only [Result.andThen]
  rw [Oper.upon_value]
  go_wp2
  go_end0
  exact ⟨rfl, rfl⟩

theorem Tryd.byte_info : (Tryd.prog.info? 5).map (fun i => (i.size, i.bytes, i.zero)) = some (1, 1, some (.int .u8 0)) := by kernel_rfl
theorem Tryd.byte_parts : ∃ i, Tryd.prog.info? 5 = some i ∧ i.zero = some (.int .u8 0) ∧ i.size = 1 ∧ i.bytes = 1 := by
  obtain ⟨i, hi, h⟩ := Option.map_eq_some_iff.1 Tryd.byte_info
  simp only [Prod.mk.injEq] at h
  exact ⟨i, hi, h.2.2, h.1, h.2.1⟩
theorem Tryd.bwstr (b : Nat) (p v : Value) (l : List UInt8) (s : ByteArray) (w : World) (hp : p = .pointer none ∨ p = .pointer (some ⟨b, 0, none⟩)) (hbk : w.heap[b]? = some (.cells #[p, v] 88 (0, 0))) (hown : w.ownsRow 0 5 1 v l.length (Ev.byteVs l)) (hne : v.ownBlock ≠ some b) (hlen : l.length + s.size ≤ 140737488355328) :
    Calls Tryd.prog 49 #[.pointer (some ⟨b, 0, none⟩), .string s] w fun e w' => e = .returned (.tuple #[.int .i64 s.size, .nilIface]) ∧ Ev.Wrote b 88 5 (l ++ s.data.toList) v w w' := by
  obtain ⟨i0, hi, hz0, hz1, hz2⟩ := Tryd.byte_parts
  have cc : Calls Tryd.prog 113 #[.pointer (some ⟨b, 0, none⟩)] w fun e w1 => e = .returned (.tuple #[]) ∧ (w1 = w ∧ p = .pointer (some ⟨b, 0, none⟩) ∨ w1 = w.setCell ⟨b, 0, none⟩ (.pointer (some ⟨b, 0, none⟩))) := by
    rcases hp with rfl | rfl
    · exact (Tryd.copyCheck_fresh b w (by simp [World.cell?, hbk]) (by simp [World.shape?, hbk]) (by simp [World.frozen?, hbk])).mono fun e w' ⟨h1, h2⟩ => ⟨h1, .inr h2⟩
    · exact (Tryd.copyCheck_used b w (by simp [World.cell?, hbk])).mono fun e w' ⟨h1, h2⟩ => ⟨h1, .inl ⟨h2, rfl⟩⟩
  have t72 := Tryd.underlying88; have a72 := Tryd.isAgg88; have z72 := Tryd.sizeOf88; have v72 := Tryd.zeroValue88; have u72 := run_underlying Tryd.underlying88
  have t70 := Tryd.underlying86; have a70 := Tryd.isAgg86; have z70 := Tryd.sizeOf86; have v70 := Tryd.zeroValue86; have u70 := run_underlying Tryd.underlying86
  have t37 := Tryd.underlying51; have a37 := Tryd.isAgg51; have z37 := Tryd.sizeOf51; have v37 := Tryd.zeroValue51; have u37 := run_underlying Tryd.underlying51
  have t3 := Tryd.underlying3; have a3 := Tryd.isAgg3; have z3 := Tryd.sizeOf3; have v3 := Tryd.zeroValue3; have u3 := run_underlying Tryd.underlying3
  have t9 := Tryd.underlying9; have a9 := Tryd.isAgg9; have z9 := Tryd.sizeOf9; have v9 := Tryd.zeroValue9; have u9 := run_underlying Tryd.underlying9
  have t91 := Tryd.underlying91; have a91 := Tryd.isAgg91; have z91 := Tryd.sizeOf91; have v91 := Tryd.zeroValue91; have u91 := run_underlying Tryd.underlying91
  have t5 := Tryd.underlying5; have a5 := Tryd.isAgg5; have z5 := Tryd.sizeOf5; have v5 := Tryd.zeroValue5; have u5 := run_underlying Tryd.underlying5
  have eCC : ∀ args w, (callFunc 113 args).run Tryd.prog w = .ok (.enter 113 args) w := enters_of Tryd.func113 (by kernel_rfl) rfl
  go_enter Tryd.func49, Tryd.ntmps49
  go_wp2_with (go_at_fn 113; refine cc.mono ?_)
  rintro e w1 ⟨rfl, h1⟩
  have hlt : b < w.heap.size := (Array.getElem?_eq_some_iff.1 hbk).1
  have hb1 : w1.heap[b]? = some (.cells #[.pointer (some ⟨b, 0, none⟩), v] 88 (0, 0)) := by
    rcases h1 with ⟨rfl, rfl⟩ | rfl
    · exact hbk
    · simp [World.setCell, Array.getElem?_modify, hbk]
  have hs1 : w1.heap.size = w.heap.size := by
    rcases h1 with ⟨rfl, rfl⟩ | rfl
    · rfl
    · simp [World.setCell]
  have hoth : ∀ k, k ≠ b → w1.heap[k]? = w.heap[k]? := fun k hk => by
    rcases h1 with ⟨rfl, rfl⟩ | rfl
    · rfl
    · exact RowKit.Below.heap_setCell _ _ _ _ fun e => hk (by simpa using e)
  have hown1 : w1.ownsRow 0 5 1 v l.length (Ev.byteVs l) := by
    refine ⟨hown.1, ?_⟩
    rcases hown.2 with q | ⟨g, cap, cur, q1, q2, q3, q4⟩
    · exact .inl q
    · refine .inr ⟨g, cap, cur, q1, q2, ?_, q4⟩
      rw [hoth g fun e => hne (by rw [q1, ← e]; rfl)]
      exact q3
  have c0 : w1.cell? ⟨b, 0, none⟩ = some (.pointer (some ⟨b, 0, none⟩)) := by rw [Lib.cell_of_heap hb1]; rfl
  have c1 : w1.cell? ⟨b, 1, none⟩ = some v := by rw [Lib.cell_of_heap hb1]; rfl
  go_wp2_with (at_builtin; refine Ev.wpList_append_bld rfl _ _ 51 9 rfl 5 i0 Tryd.underlying51 Tryd.underlying9 hi hz0 hz1 hz2 _ _ _ rfl hown1 s rfl hlen ?_)
  intro v' w2 hown' hgrow hblk
  have hb2 : w2.heap[b]? = some (.cells #[.pointer (some ⟨b, 0, none⟩), v] 88 (0, 0)) := by
    rw [hgrow.block b (by omega) (fun e => hne e.symm)]
    exact hb1
  have d0 : w2.cell? ⟨b, 0, none⟩ = some (.pointer (some ⟨b, 0, none⟩)) := by rw [Lib.cell_of_heap hb2]; rfl
  have d1 : w2.cell? ⟨b, 1, none⟩ = some v := by rw [Lib.cell_of_heap hb2]; rfl
  have f1 : w2.frozen? ⟨b, 1, none⟩ = false := Lib.frozen_of_heap hb2 1
  have fin := Ev.wrote_of (s := s) hbk hown hne h1 hown' hgrow (fun k hk => by rw [hs1]; exact hblk k hk)
  obtain ⟨ao, n', cap, rfl⟩ : ∃ ao n' cap, v' = .slice ao n' cap := by
    rcases hown'.2 with ⟨hv, _⟩ | ⟨g, cap, cur, hv, _⟩
    · exact ⟨_, _, _, hv⟩
    · exact ⟨_, _, _, hv⟩
  go_wp2
  go_ret2
  exact ⟨rfl, fin⟩

theorem Tryd.byte_cells : Tryd.prog.cellsOf 5 = 1 := by kernel_rfl
theorem Tryd.bstr_some (b g cap : Nat) (cur : Array Value) (p : Value) (l : List UInt8) (w : World) (h0 : l ≠ []) (hbk : w.heap[b]? = some (.cells #[p, .slice (some ⟨g, 0, none⟩) l.length cap] 88 (0, 0))) (hg : w.heap[g]? = some (.cells cur 5 (0, 0))) (hnc : l.length ≤ cap) (hcm : cap ≤ maxLen) (hcs : cur.size = cap * 1)
    (hcell : ∀ (j : Nat) (x : UInt8), l[j]? = some x → w.cell? ((⟨g, 0, none⟩ : Addr).add j) = some (.int .u8 x.toNat)) :
    Calls Tryd.prog 51 #[.pointer (some ⟨b, 0, none⟩)] w fun e w' => e = .returned (.string ⟨l.toArray⟩) ∧ Ev.ReadB (.slice (some ⟨g, 0, none⟩) l.length cap) w w' := by
  have hl0 : l.length ≠ 0 := by simpa using h0
  have c1 : w.drew.cell? ⟨b, 1, none⟩ = some (.slice (some ⟨g, 0, none⟩) l.length cap) := by
    have : w.drew.heap[b]? = some (.cells #[p, .slice (some ⟨g, 0, none⟩) l.length cap] 88 (0, 0)) := hbk
    rw [Lib.cell_of_heap this]; rfl
  have hSD : (Builtin.unsafeSliceData_ #[51] 155 #[.slice (some ⟨g, 0, none⟩) l.length cap]).run Tryd.prog w.drew = .ok (.pointer (some ⟨g, 0, none⟩)) w.drew :=
    Lib.run_unsafeSliceData_row _ _ _ _ _ _ (by omega)
  have hUS : (Builtin.unsafeString_ #[155, 3] 9 #[.pointer (some ⟨g, 0, none⟩), .int .i64 l.length]).run Tryd.prog w.drew = .ok (.string ⟨l.toArray⟩) (w.drew.freeze ⟨g, 0, none⟩ l.length) := by
    refine Lib.run_unsafeString_row w.drew 155 3 9 5 Tryd.underlying155 Tryd.byte_cells g cur.size (by have hg' : w.drew.heap[g]? = some (.cells cur 5 (0, 0)) := hg; simp [World.shape?, hg']) l h0 (by omega) (by unfold maxLen at hcm; omega) ?_
    intro j x hx
    exact hcell j x hx
  have t72 := Tryd.underlying88; have a72 := Tryd.isAgg88; have z72 := Tryd.sizeOf88; have v72 := Tryd.zeroValue88; have u72 := run_underlying Tryd.underlying88
  have t70 := Tryd.underlying86; have a70 := Tryd.isAgg86; have z70 := Tryd.sizeOf86; have v70 := Tryd.zeroValue86; have u70 := run_underlying Tryd.underlying86
  have t37 := Tryd.underlying51; have a37 := Tryd.isAgg51; have z37 := Tryd.sizeOf51; have v37 := Tryd.zeroValue51; have u37 := run_underlying Tryd.underlying51
  have t127 := Tryd.underlying155; have a127 := Tryd.isAgg155; have z127 := Tryd.sizeOf155; have v127 := Tryd.zeroValue155; have u127 := run_underlying Tryd.underlying155
  have t3 := Tryd.underlying3; have a3 := Tryd.isAgg3; have z3 := Tryd.sizeOf3; have v3 := Tryd.zeroValue3; have u3 := run_underlying Tryd.underlying3
  have t9 := Tryd.underlying9; have a9 := Tryd.isAgg9; have z9 := Tryd.sizeOf9; have v9 := Tryd.zeroValue9; have u9 := run_underlying Tryd.underlying9
  have t5 := Tryd.underlying5; have a5 := Tryd.isAgg5; have z5 := Tryd.sizeOf5; have v5 := Tryd.zeroValue5; have u5 := run_underlying Tryd.underlying5
  have mixed : Tryd.prog.follows .mixedOrders = true := by kernel_rfl
  go_enter Tryd.func51, Tryd.ntmps51
  go_wp2
  go_region_o
  all_goals (go_wp2; go_ret; exact ⟨rfl, Ev.readB_freeze rfl w _⟩)
theorem Tryd.bstr_us (W : World) (q : Option Addr) : (Builtin.unsafeString_ #[155, 3] 9 #[.pointer q, .int .i64 0]).run Tryd.prog W = .ok (.string .empty) W := Lib.run_unsafeString_none W _ _ _ q
theorem Tryd.bstr_nil (b : Nat) (p : Value) (w : World) (hbk : w.heap[b]? = some (.cells #[p, .slice none 0 0] 88 (0, 0))) :
    Calls Tryd.prog 51 #[.pointer (some ⟨b, 0, none⟩)] w fun e w' => e = .returned (.string ⟨#[]⟩) ∧ Ev.ReadB (.slice none 0 0) w w' := by
  have hUS := Tryd.bstr_us
  have c1 : w.drew.cell? ⟨b, 1, none⟩ = some (.slice none 0 0) := by
    have : w.drew.heap[b]? = some (.cells #[p, .slice none 0 0] 88 (0, 0)) := hbk
    rw [Lib.cell_of_heap this]; rfl
  have hSD : (Builtin.unsafeSliceData_ #[51] 155 #[.slice none 0 0]).run Tryd.prog w.drew = .ok (.pointer none) w.drew := rfl
  have t72 := Tryd.underlying88; have a72 := Tryd.isAgg88; have z72 := Tryd.sizeOf88; have v72 := Tryd.zeroValue88; have u72 := run_underlying Tryd.underlying88
  have t70 := Tryd.underlying86; have a70 := Tryd.isAgg86; have z70 := Tryd.sizeOf86; have v70 := Tryd.zeroValue86; have u70 := run_underlying Tryd.underlying86
  have t37 := Tryd.underlying51; have a37 := Tryd.isAgg51; have z37 := Tryd.sizeOf51; have v37 := Tryd.zeroValue51; have u37 := run_underlying Tryd.underlying51
  have t127 := Tryd.underlying155; have a127 := Tryd.isAgg155; have z127 := Tryd.sizeOf155; have v127 := Tryd.zeroValue155; have u127 := run_underlying Tryd.underlying155
  have t3 := Tryd.underlying3; have a3 := Tryd.isAgg3; have z3 := Tryd.sizeOf3; have v3 := Tryd.zeroValue3; have u3 := run_underlying Tryd.underlying3
  have t9 := Tryd.underlying9; have a9 := Tryd.isAgg9; have z9 := Tryd.sizeOf9; have v9 := Tryd.zeroValue9; have u9 := run_underlying Tryd.underlying9
  have t5 := Tryd.underlying5; have a5 := Tryd.isAgg5; have z5 := Tryd.sizeOf5; have v5 := Tryd.zeroValue5; have u5 := run_underlying Tryd.underlying5
  have mixed : Tryd.prog.follows .mixedOrders = true := by kernel_rfl
  go_enter Tryd.func51, Tryd.ntmps51
  go_wp2
  go_region_o
  all_goals (go_wp2; go_ret; exact ⟨rfl, Ev.readB_drew _ w⟩)
theorem Tryd.bstr_noroom (b g : Nat) (p : Value) (cur : Array Value) (w : World) (hbk : w.heap[b]? = some (.cells #[p, .slice (some ⟨g, 0, none⟩) 0 0] 88 (0, 0))) (hg : w.heap[g]? = some (.cells cur 5 (0, 0))) :
    Calls Tryd.prog 51 #[.pointer (some ⟨b, 0, none⟩)] w fun e w' => e = .returned (.string ⟨#[]⟩) ∧ Ev.ReadB (.slice (some ⟨g, 0, none⟩) 0 0) w w' := by
  have hUS := Tryd.bstr_us
  have hlt : b < w.heap.size := (Array.getElem?_eq_some_iff.1 hbk).1
  have c1 : w.drew.cell? ⟨b, 1, none⟩ = some (.slice (some ⟨g, 0, none⟩) 0 0) := by
    have : w.drew.heap[b]? = some (.cells #[p, .slice (some ⟨g, 0, none⟩) 0 0] 88 (0, 0)) := hbk
    rw [Lib.cell_of_heap this]; rfl
  have hSD : (Builtin.unsafeSliceData_ #[51] 155 #[.slice (some ⟨g, 0, none⟩) 0 0]).run Tryd.prog w.drew = .ok (.pointer (some ⟨w.drew.heap.size, 0, none⟩)) (w.drew.alloc (.view ⟨g, 0, none⟩ 5)) :=
    Lib.run_unsafeSliceData_zero w.drew _ _ 5 Tryd.underlying155 ⟨g, 0, none⟩ 0 (5, cur.size) (by have hg' : w.drew.heap[g]? = some (.cells cur 5 (0, 0)) := hg; simp [World.shape?, hg'])
  have c2 : (w.drew.alloc (.view ⟨g, 0, none⟩ 5)).cell? ⟨b, 1, none⟩ = some (.slice (some ⟨g, 0, none⟩) 0 0) := by
    have : (w.drew.alloc (.view ⟨g, 0, none⟩ 5)).heap[b]? = _ := (Lib.alloc_old w.drew _ b hlt).trans hbk
    rw [Lib.cell_of_heap this]; rfl
  have c3 : (w.alloc (.view ⟨g, 0, none⟩ 5)).drew.cell? ⟨b, 1, none⟩ = some (.slice (some ⟨g, 0, none⟩) 0 0) := c2
  have c0 : w.cell? ⟨b, 1, none⟩ = some (.slice (some ⟨g, 0, none⟩) 0 0) := c1
  have t72 := Tryd.underlying88; have a72 := Tryd.isAgg88; have z72 := Tryd.sizeOf88; have v72 := Tryd.zeroValue88; have u72 := run_underlying Tryd.underlying88
  have t70 := Tryd.underlying86; have a70 := Tryd.isAgg86; have z70 := Tryd.sizeOf86; have v70 := Tryd.zeroValue86; have u70 := run_underlying Tryd.underlying86
  have t37 := Tryd.underlying51; have a37 := Tryd.isAgg51; have z37 := Tryd.sizeOf51; have v37 := Tryd.zeroValue51; have u37 := run_underlying Tryd.underlying51
  have t127 := Tryd.underlying155; have a127 := Tryd.isAgg155; have z127 := Tryd.sizeOf155; have v127 := Tryd.zeroValue155; have u127 := run_underlying Tryd.underlying155
  have t3 := Tryd.underlying3; have a3 := Tryd.isAgg3; have z3 := Tryd.sizeOf3; have v3 := Tryd.zeroValue3; have u3 := run_underlying Tryd.underlying3
  have t9 := Tryd.underlying9; have a9 := Tryd.isAgg9; have z9 := Tryd.sizeOf9; have v9 := Tryd.zeroValue9; have u9 := run_underlying Tryd.underlying9
  have t5 := Tryd.underlying5; have a5 := Tryd.isAgg5; have z5 := Tryd.sizeOf5; have v5 := Tryd.zeroValue5; have u5 := run_underlying Tryd.underlying5
  have mixed : Tryd.prog.follows .mixedOrders = true := by kernel_rfl
  go_enter Tryd.func51, Tryd.ntmps51
  go_wp2
  go_region_o
  all_goals (go_wp2; go_ret; exact ⟨rfl, Ev.readB_alloc _ w _⟩)
theorem Tryd.bstr_room (b g cap : Nat) (p : Value) (w : World) (hc0 : cap ≠ 0) (hbk : w.heap[b]? = some (.cells #[p, .slice (some ⟨g, 0, none⟩) 0 cap] 88 (0, 0))) :
    Calls Tryd.prog 51 #[.pointer (some ⟨b, 0, none⟩)] w fun e w' => e = .returned (.string ⟨#[]⟩) ∧ Ev.ReadB (.slice (some ⟨g, 0, none⟩) 0 cap) w w' := by
  have hUS := Tryd.bstr_us
  have c1 : w.drew.cell? ⟨b, 1, none⟩ = some (.slice (some ⟨g, 0, none⟩) 0 cap) := by
    have : w.drew.heap[b]? = some (.cells #[p, .slice (some ⟨g, 0, none⟩) 0 cap] 88 (0, 0)) := hbk
    rw [Lib.cell_of_heap this]; rfl
  have hSD : (Builtin.unsafeSliceData_ #[51] 155 #[.slice (some ⟨g, 0, none⟩) 0 cap]).run Tryd.prog w.drew = .ok (.pointer (some ⟨g, 0, none⟩)) w.drew :=
    Lib.run_unsafeSliceData_row _ _ _ _ _ _ hc0
  clear hc0
  have t72 := Tryd.underlying88; have a72 := Tryd.isAgg88; have z72 := Tryd.sizeOf88; have v72 := Tryd.zeroValue88; have u72 := run_underlying Tryd.underlying88
  have t70 := Tryd.underlying86; have a70 := Tryd.isAgg86; have z70 := Tryd.sizeOf86; have v70 := Tryd.zeroValue86; have u70 := run_underlying Tryd.underlying86
  have t37 := Tryd.underlying51; have a37 := Tryd.isAgg51; have z37 := Tryd.sizeOf51; have v37 := Tryd.zeroValue51; have u37 := run_underlying Tryd.underlying51
  have t127 := Tryd.underlying155; have a127 := Tryd.isAgg155; have z127 := Tryd.sizeOf155; have v127 := Tryd.zeroValue155; have u127 := run_underlying Tryd.underlying155
  have t3 := Tryd.underlying3; have a3 := Tryd.isAgg3; have z3 := Tryd.sizeOf3; have v3 := Tryd.zeroValue3; have u3 := run_underlying Tryd.underlying3
  have t9 := Tryd.underlying9; have a9 := Tryd.isAgg9; have z9 := Tryd.sizeOf9; have v9 := Tryd.zeroValue9; have u9 := run_underlying Tryd.underlying9
  have t5 := Tryd.underlying5; have a5 := Tryd.isAgg5; have z5 := Tryd.sizeOf5; have v5 := Tryd.zeroValue5; have u5 := run_underlying Tryd.underlying5
  have mixed : Tryd.prog.follows .mixedOrders = true := by kernel_rfl
  go_enter Tryd.func51, Tryd.ntmps51
  go_wp2
  go_region_o
  all_goals (go_wp2; go_ret; exact ⟨rfl, Ev.readB_drew _ w⟩)
theorem Tryd.bstr (b : Nat) (p v : Value) (l : List UInt8) (w : World) (hbk : w.heap[b]? = some (.cells #[p, v] 88 (0, 0))) (hown : w.ownsRow 0 5 1 v l.length (Ev.byteVs l)) :
    Calls Tryd.prog 51 #[.pointer (some ⟨b, 0, none⟩)] w fun e w' => e = .returned (.string ⟨l.toArray⟩) ∧ Ev.ReadB v w w' := by
  rcases hown.2 with ⟨rfl, h0⟩ | ⟨g, cap, cur, rfl, _, hg, hnc, hcm, hcs, htake⟩
  · obtain rfl := List.eq_nil_of_length_eq_zero h0
    exact Tryd.bstr_nil b p w hbk
  · cases l with
    | nil =>
      by_cases hc : cap = 0
      · subst hc
        exact Tryd.bstr_noroom b g p cur w hbk hg
      · exact Tryd.bstr_room b g cap p w hc hbk
    | cons x l =>
      refine Tryd.bstr_some b g cap cur p (x :: l) w (by simp) hbk hg hnc hcm hcs fun j y hy => ?_
      exact hown.cells (g := g) rfl j (.int .u8 y.toNat) (by rw [Ev.byteVs, List.getElem?_map, hy]; rfl)

end Go.Proofs
namespace Go.Ev
open Go Go.Proofs
def OkT : Nat → World → Prop := OkTab Tryd.prog 1
theorem okT : Stable OkT := okTab_stable (by kernel_rfl)
theorem Tryd_mix : Tryd.prog.follows .mixedOrders = true := by kernel_rfl
noncomputable def run_strings_Join : Run := run_join
theorem ok_strings_Join : FnOk Tryd.prog OkT fid_strings_Join run_strings_Join := join_ok Tryd.strings_Join Tryd.strings_Join_none
noncomputable def run_strconv_Itoa : Run := run_itoa
theorem ok_strconv_Itoa : FnOk Tryd.prog OkT fid_strconv_Itoa run_strconv_Itoa := itoa_ok fun n h0 h1 _ w h => Tryd.strconv_Itoa n h0 h1 w h.2
noncomputable def run_strings_Builder_WriteString : Run := run_bwstr 88 5
theorem ok_strings_Builder_WriteString : FnOk Tryd.prog OkT fid_strings_Builder_WriteString run_strings_Builder_WriteString := bwstr_ok Tryd.bwstr
noncomputable def run_strings_Builder_String : Run := run_bstr 88 5
theorem ok_strings_Builder_String : FnOk Tryd.prog OkT fid_strings_Builder_String run_strings_Builder_String := bstr_ok Tryd.bstr
end Go.Ev
