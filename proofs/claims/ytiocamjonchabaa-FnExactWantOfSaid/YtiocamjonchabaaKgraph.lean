/- What the functions come to (graph). Conditions: none. -/
import Derived.Test.YtiocamjonchabaaKtask
set_option linter.unusedSimpArgs false
set_option linter.unusedVariables false
namespace Go.Ev
open Go
theorem strs_rep (xs : List Str) (H : List Entry) (w q : Bool) : ∀ x ∈ xs, ∀ H', Sp (Rep H' true true 1) [] (eStr x) (trStr x) := fun x _ H' => Sp.leaf1 _
theorem f_slices_Clone_string (xs : List Str) (hx : xs.length ≤ 1073741824) : Fresh run_slices_Clone_string true 2 [.one (strsC xs)] [.one (trL 1 trStr xs)] := by
  obtain ⟨p, h1, h2⟩ := (Grow.nil 1).app (by' := 16) (xs.map eStr) (by unfold bound; simp; omega) (by unfold bound; simp; omega)
  rw [List.nil_append] at h2
  obtain ⟨ids, h3, h4, h5⟩ := h2.rep (tr := trStr) (fun _ _ => rfl) (fun x _ H' => Sp.leaf1 _)
  refine Fresh.one (c := p.1) (H := p.2) (run_slices_Clone_string_of 0 ?_) h3 h4
  have hs : srcRows [] 1 (strsC xs) = some (xs.map eStr) := by simp [srcRows, rowsOf, encL]
  simp only [slices_Clone_string, hs, h1, callS_canon, callL_canon, Option.map_some, Option.bind_some, shape_one, shape_agg, shape_nil, cellsAt_0, cellsAt_1, cellsAt_2, cellsAt_3, cells_one, cells_agg, cB_zero, cI_zero, cS_zero, cC_zero, cB_cons, cI_cons, cS_cons, cC_cons, cond_true, cond_false, List.length_cons, List.length_nil, beq_self_eq_true, Bool.and_true, Bool.true_and, lenC_encL, lenC_lst, deref_ref, emptyK_nil, bs_size, bs_toList]
  cases xs with
  | nil =>
    simp only [List.map_nil, app, List.isEmpty_nil, if_true, Option.some.injEq] at h1
    subst h1
    simp [nilC, encL, both]
  | cons x xs => simp [nilC, encL]
end Go.Ev
