/- The law FnExactTaskName answers true for every pair of strings; no conditions beyond those of the given statement. -/
import Derived.Test.YtkpiaalieeacgaaPFnExactTaskNamex1
namespace Go.Proofs.Ytkpiaalieeacgaa.Pure
open Go.RowKit Go.Proofs.Ytkpiaalieeacgaa.PFnExactTaskName Go.Proofs.YtkpiaalieeacgaaW.PrintWords Go.Proofs.YtkpiaalieeacgaaW.PrintLast

theorem FnExactTaskName : laws_FnExactTaskName.Pure := by
  intro a0 a1 h0 h1
  unfold laws_FnExactTaskName.f
  split
  · rfl
  · split
    · rfl
    · have e1 : a0.size + 1 ≤ 9223372036854775807 := by omega
      have e2 : (a0 ++ (⟨#[35]⟩ : ByteArray)).size + a1.size ≤ 9223372036854775807 := by
        rw [ByteArray.size_append]
        have : (⟨#[35]⟩ : ByteArray).size = 1 := rfl
        omega
      unfold spec_TaskName.f impl_TaskName.f
      rw [if_pos e1, if_pos e2]
      simp

end Go.Proofs.Ytkpiaalieeacgaa.Pure
