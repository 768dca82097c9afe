/- What the evaluator is told of each function, and that the program has it. Conditions: none. -/
import Derived.Test.YtkpiaalieeacgaaEvTy
set_option linter.unusedVariables false
namespace Go.Ev
open Go Go.Proofs
abbrev fid_laws_FnExactCacheSize : Nat := 4
abbrev rk_laws_FnExactCacheSize : List (Bool × List Kd) := [(false, [.bool])]
noncomputable def fi_laws_FnExactCacheSize : FI := fiOf Try.f4 rk_laws_FnExactCacheSize [] [] [] false .pure
theorem fi_laws_FnExactCacheSize_ok : FiAt Try.prog 4 fi_laws_FnExactCacheSize := fiAt_of (Try.func4) (by kernel_rfl)
abbrev fid_laws_szSlotS : Nat := 17
abbrev rk_laws_szSlotS : List (Bool × List Kd) := [(false, [.int .i64])]
noncomputable def fi_laws_szSlotS : FI := fiOf Try.f17 rk_laws_szSlotS [] [(0, [0, 1, 5])] [] false .pure
theorem fi_laws_szSlotS_ok : FiAt Try.prog 17 fi_laws_szSlotS := fiAt_of (Try.func17) (by kernel_rfl)
abbrev fid_spec_CacheSize : Nat := 18
abbrev rk_spec_CacheSize : List (Bool × List Kd) := [(false, [.int .i64])]
noncomputable def fi_spec_CacheSize : FI := fiOf Try.f18 rk_spec_CacheSize [] [(0, [0, 3, 4])] [] false .pure
theorem fi_spec_CacheSize_ok : FiAt Try.prog 18 fi_spec_CacheSize := fiAt_of (Try.func18) (by kernel_rfl)
abbrev fid_laws_toSlotS : Nat := 19
abbrev rk_laws_toSlotS : List (Bool × List Kd) := [(false, [.slice 112])]
noncomputable def fi_laws_toSlotS : FI := fiOf Try.f19 rk_laws_toSlotS [] [(0, [0, 3, 4])] [] false .pure
theorem fi_laws_toSlotS_ok : FiAt Try.prog 19 fi_laws_toSlotS := fiAt_of (Try.func19) (by kernel_rfl)
abbrev fid_impl_CacheSize : Nat := 20
abbrev rk_impl_CacheSize : List (Bool × List Kd) := [(false, [.int .i64])]
noncomputable def fi_impl_CacheSize : FI := fiOf Try.f20 rk_impl_CacheSize [5] [(0, [3, 6, 7, 8])] [] false .pure
theorem fi_impl_CacheSize_ok : FiAt Try.prog 20 fi_impl_CacheSize := fiAt_of (Try.func20) (by kernel_rfl)
abbrev fid_laws_eqSlotS : Nat := 21
abbrev rk_laws_eqSlotS : List (Bool × List Kd) := [(false, [.bool])]
noncomputable def fi_laws_eqSlotS : FI := fiOf Try.f21 rk_laws_eqSlotS [] [(0, [0, 1, 5])] [] false .pure
theorem fi_laws_eqSlotS_ok : FiAt Try.prog 21 fi_laws_eqSlotS := fiAt_of (Try.func21) (by kernel_rfl)
abbrev fid_laws_szSlot : Nat := 78
abbrev rk_laws_szSlot : List (Bool × List Kd) := [(false, [.int .i64])]
noncomputable def fi_laws_szSlot : FI := fiOf Try.f78 rk_laws_szSlot [2] [] [] false .pure
theorem fi_laws_szSlot_ok : FiAt Try.prog 78 fi_laws_szSlot := fiAt_of (Try.func78) (by kernel_rfl)
abbrev fid_laws_toSlot : Nat := 79
abbrev rk_laws_toSlot : List (Bool × List Kd) := [(true, [.slice 5, .slice 5])]
noncomputable def fi_laws_toSlot : FI := fiOf Try.f79 rk_laws_toSlot [1, 2, 3] [] [] false .pure
theorem fi_laws_toSlot_ok : FiAt Try.prog 79 fi_laws_toSlot := fiAt_of (Try.func79) (by kernel_rfl)
abbrev fid_laws_eqSlot : Nat := 80
abbrev rk_laws_eqSlot : List (Bool × List Kd) := [(false, [.bool])]
noncomputable def fi_laws_eqSlot : FI := fiOf Try.f80 rk_laws_eqSlot [2, 3] [] [] false .pure
theorem fi_laws_eqSlot_ok : FiAt Try.prog 80 fi_laws_eqSlot := fiAt_of (Try.func80) (by kernel_rfl)
abbrev fid_laws_szByteS : Nat := 128
abbrev rk_laws_szByteS : List (Bool × List Kd) := [(false, [.int .i64])]
noncomputable def fi_laws_szByteS : FI := fiOf Try.f128 rk_laws_szByteS [] [] [] false .pure
theorem fi_laws_szByteS_ok : FiAt Try.prog 128 fi_laws_szByteS := fiAt_of (Try.func128) (by kernel_rfl)
abbrev fid_laws_toByteS : Nat := 129
abbrev rk_laws_toByteS : List (Bool × List Kd) := [(false, [.slice 5])]
noncomputable def fi_laws_toByteS : FI := fiOf Try.f129 rk_laws_toByteS [] [(0, [0, 3, 4])] [] false .pure
theorem fi_laws_toByteS_ok : FiAt Try.prog 129 fi_laws_toByteS := fiAt_of (Try.func129) (by kernel_rfl)
abbrev fid_laws_eqByteS : Nat := 130
abbrev rk_laws_eqByteS : List (Bool × List Kd) := [(false, [.bool])]
noncomputable def fi_laws_eqByteS : FI := fiOf Try.f130 rk_laws_eqByteS [] [(0, [0, 1, 5])] [] false .pure
theorem fi_laws_eqByteS_ok : FiAt Try.prog 130 fi_laws_eqByteS := fiAt_of (Try.func130) (by kernel_rfl)
abbrev fid_internal_stringslite_IndexByte : Nat := 165
abbrev rk_internal_stringslite_IndexByte : List (Bool × List Kd) := [(false, [.int .i64])]
noncomputable def fi_internal_stringslite_IndexByte : FI := fiOf Try.f165 rk_internal_stringslite_IndexByte [] [] [] false .pure
theorem fi_internal_stringslite_IndexByte_ok : FiAt Try.prog 165 fi_internal_stringslite_IndexByte := fiAt_of (Try.func165) (by kernel_rfl)
noncomputable def fiTab : Tab FI := .node none (.node none (.node none (.node none (.node none (.leaf) (.node none (.node (some fi_laws_toSlot) (.leaf) (.leaf)) (.leaf))) (.leaf)) (.node none (.node (some fi_laws_toSlotS) (.leaf) (.leaf)) (.leaf))) (.node none (.node none (.node (some fi_laws_szSlotS) (.node none (.node none (.node (some fi_laws_toByteS) (.leaf) (.leaf)) (.leaf)) (.leaf)) (.leaf)) (.leaf)) (.node none (.node (some fi_laws_eqSlotS) (.node none (.leaf) (.node none (.node (some fi_internal_stringslite_IndexByte) (.leaf) (.leaf)) (.leaf))) (.leaf)) (.leaf)))) (.node none (.node (some fi_laws_FnExactCacheSize) (.node none (.node none (.node none (.node none (.node (some fi_laws_szByteS) (.leaf) (.leaf)) (.leaf)) (.leaf)) (.node none (.node (some fi_laws_eqSlot) (.leaf) (.leaf)) (.leaf))) (.leaf)) (.node none (.node (some fi_impl_CacheSize) (.leaf) (.leaf)) (.leaf))) (.node none (.node none (.node (some fi_spec_CacheSize) (.node none (.node none (.node (some fi_laws_eqByteS) (.leaf) (.leaf)) (.leaf)) (.leaf)) (.leaf)) (.leaf)) (.node none (.leaf) (.node none (.node none (.node (some fi_laws_szSlot) (.leaf) (.leaf)) (.leaf)) (.leaf)))))
theorem fiTab_ok : fiTab.All (FiAt Try.prog) id := ⟨fun _ h => (nomatch h), ⟨fun _ h => (nomatch h), ⟨fun _ h => (nomatch h), ⟨fun _ h => (nomatch h), ⟨fun _ h => (nomatch h), trivial, ⟨fun _ h => (nomatch h), ⟨fun _ h => (Option.some.inj h ▸ fi_laws_toSlot_ok), trivial, trivial⟩, trivial⟩⟩, trivial⟩, ⟨fun _ h => (nomatch h), ⟨fun _ h => (Option.some.inj h ▸ fi_laws_toSlotS_ok), trivial, trivial⟩, trivial⟩⟩, ⟨fun _ h => (nomatch h), ⟨fun _ h => (nomatch h), ⟨fun _ h => (Option.some.inj h ▸ fi_laws_szSlotS_ok), ⟨fun _ h => (nomatch h), ⟨fun _ h => (nomatch h), ⟨fun _ h => (Option.some.inj h ▸ fi_laws_toByteS_ok), trivial, trivial⟩, trivial⟩, trivial⟩, trivial⟩, trivial⟩, ⟨fun _ h => (nomatch h), ⟨fun _ h => (Option.some.inj h ▸ fi_laws_eqSlotS_ok), ⟨fun _ h => (nomatch h), trivial, ⟨fun _ h => (nomatch h), ⟨fun _ h => (Option.some.inj h ▸ fi_internal_stringslite_IndexByte_ok), trivial, trivial⟩, trivial⟩⟩, trivial⟩, trivial⟩⟩⟩, ⟨fun _ h => (nomatch h), ⟨fun _ h => (Option.some.inj h ▸ fi_laws_FnExactCacheSize_ok), ⟨fun _ h => (nomatch h), ⟨fun _ h => (nomatch h), ⟨fun _ h => (nomatch h), ⟨fun _ h => (nomatch h), ⟨fun _ h => (Option.some.inj h ▸ fi_laws_szByteS_ok), trivial, trivial⟩, trivial⟩, trivial⟩, ⟨fun _ h => (nomatch h), ⟨fun _ h => (Option.some.inj h ▸ fi_laws_eqSlot_ok), trivial, trivial⟩, trivial⟩⟩, trivial⟩, ⟨fun _ h => (nomatch h), ⟨fun _ h => (Option.some.inj h ▸ fi_impl_CacheSize_ok), trivial, trivial⟩, trivial⟩⟩, ⟨fun _ h => (nomatch h), ⟨fun _ h => (nomatch h), ⟨fun _ h => (Option.some.inj h ▸ fi_spec_CacheSize_ok), ⟨fun _ h => (nomatch h), ⟨fun _ h => (nomatch h), ⟨fun _ h => (Option.some.inj h ▸ fi_laws_eqByteS_ok), trivial, trivial⟩, trivial⟩, trivial⟩, trivial⟩, trivial⟩, ⟨fun _ h => (nomatch h), trivial, ⟨fun _ h => (nomatch h), ⟨fun _ h => (nomatch h), ⟨fun _ h => (Option.some.inj h ▸ fi_laws_szSlot_ok), trivial, trivial⟩, trivial⟩, trivial⟩⟩⟩⟩⟩
end Go.Ev
