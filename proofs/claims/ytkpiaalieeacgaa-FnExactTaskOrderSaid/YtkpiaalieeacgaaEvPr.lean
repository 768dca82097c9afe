/- Functions of the library that are taken off the shelf, and what all functions here share. Conditions: none. -/
import Derived.Test.YtkpiaalieeacgaaEvFi
import Derived.Test.YtkpiaalieeacgaaEvLaw
import Derived.Lib.Strings
import Derived.Lib.Slices
import Derived.Lib.Walk
import Derived.Lib.Bytealg
import Derived.KernelRfl
namespace Go.Proofs
set_option maxHeartbeats 1000000
set_option maxRecDepth 100000

/-- Its way into the library's own text (by the kit's shelf). -/
theorem calls_stringslite_IndexByte (s : ByteArray) (c : Int) (w : World) :
    Calls Try.prog 165 #[.string s, .int .u8 c] w fun e w' => e = .returned (.int .i64 (Lib.indexByte s.data.toList c.toNat.toUInt8)) ∧ w' = w := by
  go_enter Try.func165, Try.ntmps165
  go_wp2
  rw [run_callFunc_extern Try.func169 (by kernel_rfl) (by kernel_rfl) (by kernel_rfl) (e := Extern.BytealgIndexByte.indexByte) (by kernel_rfl), Lib.run_indexByteString]
  simp only [Result.andThen]
  rw [Oper.upon_value]
  go_wp2
  go_ret
  exact ⟨rfl, rfl⟩

end Go.Proofs
namespace Go.Ev
open Go Go.Proofs
def OkT : Nat → World → Prop := fun _ _ => True
theorem okT : Stable OkT := fun _ _ _ _ _ _ _ _ _ => trivial
theorem Try_mix : Try.prog.follows .mixedOrders = true := by kernel_rfl

def run_internal_stringslite_IndexByte : Run
  | [.one (.sc (.string s)), .one (.sc (.int .u8 c))], H => some ([.one (.sc (.int .i64 (Lib.indexByte s.data.toList c.toNat.toUInt8)))], H)
  | _, _ => none
theorem ok_internal_stringslite_IndexByte : FnOk Try.prog OkT fid_internal_stringslite_IndexByte run_internal_stringslite_IndexByte := by
  intro args H r h g B w vs hOk hh hB ha
  unfold run_internal_stringslite_IndexByte at h
  split at h
  · rename_i s c
    simp only [Option.some.injEq] at h
    subst h
    cases ha with
    | cons a1 t1 => cases t1 with
      | cons a2 t2 => cases t2 with
        | nil =>
          cases a1 with
          | one _ _ h1 => cases a2 with
            | one _ _ h2 =>
              cases h1; cases h2
              refine (calls_stringslite_IndexByte s c w).mono fun e w' ⟨he, hw⟩ => ⟨_, he, g, ?_, ?_, ?_⟩
              · rw [hw]; exact .refl _ _
              · rw [hw]; exact hh
              · rw [hw]; exact .av _ _ (.one _ _ (.sc _ rfl))
  · simp at h

end Go.Ev
