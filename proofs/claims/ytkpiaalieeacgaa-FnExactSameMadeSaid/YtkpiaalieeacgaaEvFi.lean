/- What the evaluator is told of each function, and that the program has it. Conditions: none. -/
import Derived.Test.YtkpiaalieeacgaaEvTy
set_option linter.unusedVariables false
namespace Go.Ev
open Go Go.Proofs
abbrev fid_laws_FnExactSameMade : Nat := 5
abbrev rk_laws_FnExactSameMade : List (Bool × List Kd) := [(false, [.bool])]
noncomputable def fi_laws_FnExactSameMade : FI := fiOf Try.f5 rk_laws_FnExactSameMade [2, 3, 7, 8] [] [] false .pure
theorem fi_laws_FnExactSameMade_ok : FiAt Try.prog 5 fi_laws_FnExactSameMade := fiAt_of (Try.func5) (by kernel_rfl)
abbrev fid_laws_szMade : Nat := 22
abbrev rk_laws_szMade : List (Bool × List Kd) := [(false, [.int .i64])]
noncomputable def fi_laws_szMade : FI := fiOf Try.f22 rk_laws_szMade [2] [] [] false .pure
theorem fi_laws_szMade_ok : FiAt Try.prog 22 fi_laws_szMade := fiAt_of (Try.func22) (by kernel_rfl)
abbrev fid_spec_SameMade : Nat := 23
abbrev rk_spec_SameMade : List (Bool × List Kd) := [(false, [.bool])]
noncomputable def fi_spec_SameMade : FI := fiOf Try.f23 rk_spec_SameMade [2, 3] [] [] false .pure
theorem fi_spec_SameMade_ok : FiAt Try.prog 23 fi_spec_SameMade := fiAt_of (Try.func23) (by kernel_rfl)
abbrev fid_laws_toMade : Nat := 24
abbrev rk_laws_toMade : List (Bool × List Kd) := [(true, [.str, .slice 119, .str])]
noncomputable def fi_laws_toMade : FI := fiOf Try.f24 rk_laws_toMade [1, 2, 3] [] [] false .pure
theorem fi_laws_toMade_ok : FiAt Try.prog 24 fi_laws_toMade := fiAt_of (Try.func24) (by kernel_rfl)
abbrev fid_impl_SameMade : Nat := 25
abbrev rk_impl_SameMade : List (Bool × List Kd) := [(false, [.bool])]
noncomputable def fi_impl_SameMade : FI := fiOf Try.f25 rk_impl_SameMade [2, 3] [] [] false .pure
theorem fi_impl_SameMade_ok : FiAt Try.prog 25 fi_impl_SameMade := fiAt_of (Try.func25) (by kernel_rfl)
abbrev fid_laws_eqMade : Nat := 26
abbrev rk_laws_eqMade : List (Bool × List Kd) := [(false, [.bool])]
noncomputable def fi_laws_eqMade : FI := fiOf Try.f26 rk_laws_eqMade [2, 3] [] [] false .pure
theorem fi_laws_eqMade_ok : FiAt Try.prog 26 fi_laws_eqMade := fiAt_of (Try.func26) (by kernel_rfl)
abbrev fid_laws_szFileS : Nat := 81
abbrev rk_laws_szFileS : List (Bool × List Kd) := [(false, [.int .i64])]
noncomputable def fi_laws_szFileS : FI := fiOf Try.f81 rk_laws_szFileS [] [(0, [0, 1, 5])] [] false .pure
theorem fi_laws_szFileS_ok : FiAt Try.prog 81 fi_laws_szFileS := fiAt_of (Try.func81) (by kernel_rfl)
abbrev fid_spec_l16SameFiles : Nat := 82
abbrev rk_spec_l16SameFiles : List (Bool × List Kd) := [(false, [.bool])]
noncomputable def fi_spec_l16SameFiles : FI := fiOf Try.f82 rk_spec_l16SameFiles [] [(0, [0, 1, 5])] [] false .pure
theorem fi_spec_l16SameFiles_ok : FiAt Try.prog 82 fi_spec_l16SameFiles := fiAt_of (Try.func82) (by kernel_rfl)
abbrev fid_laws_toFileS : Nat := 83
abbrev rk_laws_toFileS : List (Bool × List Kd) := [(false, [.slice 119])]
noncomputable def fi_laws_toFileS : FI := fiOf Try.f83 rk_laws_toFileS [] [(0, [0, 3, 4])] [] false .pure
theorem fi_laws_toFileS_ok : FiAt Try.prog 83 fi_laws_toFileS := fiAt_of (Try.func83) (by kernel_rfl)
abbrev fid_slices_Equal_File : Nat := 84
abbrev rk_slices_Equal_File : List (Bool × List Kd) := [(false, [.bool])]
noncomputable def fi_slices_Equal_File : FI := fiOf Try.f84 rk_slices_Equal_File [] [(0, [0, 1, 12, 13])] [] false .pure
theorem fi_slices_Equal_File_ok : FiAt Try.prog 84 fi_slices_Equal_File := fiAt_of (Try.func84) (by kernel_rfl)
abbrev fid_laws_eqFileS : Nat := 85
abbrev rk_laws_eqFileS : List (Bool × List Kd) := [(false, [.bool])]
noncomputable def fi_laws_eqFileS : FI := fiOf Try.f85 rk_laws_eqFileS [] [(0, [0, 1, 5])] [] false .pure
theorem fi_laws_eqFileS_ok : FiAt Try.prog 85 fi_laws_eqFileS := fiAt_of (Try.func85) (by kernel_rfl)
abbrev fid_laws_szFile : Nat := 131
abbrev rk_laws_szFile : List (Bool × List Kd) := [(false, [.int .i64])]
noncomputable def fi_laws_szFile : FI := fiOf Try.f131 rk_laws_szFile [2] [] [] false .pure
theorem fi_laws_szFile_ok : FiAt Try.prog 131 fi_laws_szFile := fiAt_of (Try.func131) (by kernel_rfl)
abbrev fid_laws_toFile : Nat := 132
abbrev rk_laws_toFile : List (Bool × List Kd) := [(true, [.str, .str])]
noncomputable def fi_laws_toFile : FI := fiOf Try.f132 rk_laws_toFile [1, 2, 3] [] [] false .pure
theorem fi_laws_toFile_ok : FiAt Try.prog 132 fi_laws_toFile := fiAt_of (Try.func132) (by kernel_rfl)
abbrev fid_laws_eqFile : Nat := 133
abbrev rk_laws_eqFile : List (Bool × List Kd) := [(false, [.bool])]
noncomputable def fi_laws_eqFile : FI := fiOf Try.f133 rk_laws_eqFile [2, 3] [] [] false .pure
theorem fi_laws_eqFile_ok : FiAt Try.prog 133 fi_laws_eqFile := fiAt_of (Try.func133) (by kernel_rfl)
abbrev fid_internal_stringslite_IndexByte : Nat := 165
abbrev rk_internal_stringslite_IndexByte : List (Bool × List Kd) := [(false, [.int .i64])]
noncomputable def fi_internal_stringslite_IndexByte : FI := fiOf Try.f165 rk_internal_stringslite_IndexByte [] [] [] false .pure
theorem fi_internal_stringslite_IndexByte_ok : FiAt Try.prog 165 fi_internal_stringslite_IndexByte := fiAt_of (Try.func165) (by kernel_rfl)
noncomputable def fiTab : Tab FI := .node none (.node none (.node none (.node none (.leaf) (.node (some fi_spec_SameMade) (.leaf) (.leaf))) (.node none (.node none (.node none (.node none (.node (some fi_laws_szFile) (.leaf) (.leaf)) (.leaf)) (.leaf)) (.node none (.node (some fi_laws_toFileS) (.leaf) (.leaf)) (.leaf))) (.leaf))) (.node (some fi_laws_FnExactSameMade) (.node none (.node none (.leaf) (.node none (.node (some fi_laws_szFileS) (.leaf) (.leaf)) (.leaf))) (.node (some fi_impl_SameMade) (.leaf) (.leaf))) (.node none (.node none (.node none (.node none (.node (some fi_laws_eqFile) (.leaf) (.leaf)) (.leaf)) (.node none (.node (some fi_internal_stringslite_IndexByte) (.leaf) (.leaf)) (.leaf))) (.node none (.node (some fi_laws_eqFileS) (.leaf) (.leaf)) (.leaf))) (.leaf)))) (.node none (.node none (.node none (.leaf) (.node (some fi_laws_toMade) (.leaf) (.leaf))) (.node none (.node none (.node none (.node none (.node (some fi_laws_toFile) (.leaf) (.leaf)) (.leaf)) (.leaf)) (.node none (.node (some fi_slices_Equal_File) (.leaf) (.leaf)) (.leaf))) (.leaf))) (.node none (.node none (.node none (.leaf) (.node none (.node (some fi_spec_l16SameFiles) (.leaf) (.leaf)) (.leaf))) (.node (some fi_laws_eqMade) (.leaf) (.leaf))) (.node none (.node (some fi_laws_szMade) (.leaf) (.leaf)) (.leaf))))
theorem fiTab_ok : fiTab.All (FiAt Try.prog) id := ⟨fun _ h => (nomatch h), ⟨fun _ h => (nomatch h), ⟨fun _ h => (nomatch h), ⟨fun _ h => (nomatch h), trivial, ⟨fun _ h => (Option.some.inj h ▸ fi_spec_SameMade_ok), trivial, trivial⟩⟩, ⟨fun _ h => (nomatch h), ⟨fun _ h => (nomatch h), ⟨fun _ h => (nomatch h), ⟨fun _ h => (nomatch h), ⟨fun _ h => (Option.some.inj h ▸ fi_laws_szFile_ok), trivial, trivial⟩, trivial⟩, trivial⟩, ⟨fun _ h => (nomatch h), ⟨fun _ h => (Option.some.inj h ▸ fi_laws_toFileS_ok), trivial, trivial⟩, trivial⟩⟩, trivial⟩⟩, ⟨fun _ h => (Option.some.inj h ▸ fi_laws_FnExactSameMade_ok), ⟨fun _ h => (nomatch h), ⟨fun _ h => (nomatch h), trivial, ⟨fun _ h => (nomatch h), ⟨fun _ h => (Option.some.inj h ▸ fi_laws_szFileS_ok), trivial, trivial⟩, trivial⟩⟩, ⟨fun _ h => (Option.some.inj h ▸ fi_impl_SameMade_ok), trivial, trivial⟩⟩, ⟨fun _ h => (nomatch h), ⟨fun _ h => (nomatch h), ⟨fun _ h => (nomatch h), ⟨fun _ h => (nomatch h), ⟨fun _ h => (Option.some.inj h ▸ fi_laws_eqFile_ok), trivial, trivial⟩, trivial⟩, ⟨fun _ h => (nomatch h), ⟨fun _ h => (Option.some.inj h ▸ fi_internal_stringslite_IndexByte_ok), trivial, trivial⟩, trivial⟩⟩, ⟨fun _ h => (nomatch h), ⟨fun _ h => (Option.some.inj h ▸ fi_laws_eqFileS_ok), trivial, trivial⟩, trivial⟩⟩, trivial⟩⟩⟩, ⟨fun _ h => (nomatch h), ⟨fun _ h => (nomatch h), ⟨fun _ h => (nomatch h), trivial, ⟨fun _ h => (Option.some.inj h ▸ fi_laws_toMade_ok), trivial, trivial⟩⟩, ⟨fun _ h => (nomatch h), ⟨fun _ h => (nomatch h), ⟨fun _ h => (nomatch h), ⟨fun _ h => (nomatch h), ⟨fun _ h => (Option.some.inj h ▸ fi_laws_toFile_ok), trivial, trivial⟩, trivial⟩, trivial⟩, ⟨fun _ h => (nomatch h), ⟨fun _ h => (Option.some.inj h ▸ fi_slices_Equal_File_ok), trivial, trivial⟩, trivial⟩⟩, trivial⟩⟩, ⟨fun _ h => (nomatch h), ⟨fun _ h => (nomatch h), ⟨fun _ h => (nomatch h), trivial, ⟨fun _ h => (nomatch h), ⟨fun _ h => (Option.some.inj h ▸ fi_spec_l16SameFiles_ok), trivial, trivial⟩, trivial⟩⟩, ⟨fun _ h => (Option.some.inj h ▸ fi_laws_eqMade_ok), trivial, trivial⟩⟩, ⟨fun _ h => (nomatch h), ⟨fun _ h => (Option.some.inj h ▸ fi_laws_szMade_ok), trivial, trivial⟩, trivial⟩⟩⟩⟩
end Go.Ev
