/- What the functions come to (pick). Conditions: none. -/
import Derived.Test.YtiocamjonchabaaKrule
set_option linter.unusedSimpArgs false
set_option linter.unusedVariables false
namespace Go.Ev
open Go
/-- The place of the first element that answers. -/
def idxF {α : Type} (p : α → Bool) : List α → Nat → Int
  | [], _ => -1
  | x :: r, i => cond (p x) (i : Int) (idxF p r (i + 1))
theorem idxF_find {α : Type} (p : α → Bool) : ∀ (l : List α) (i : Nat), (idxF p l i = -1 ∧ l.find? p = none) ∨ ∃ (j : Nat) (x : α), idxF p l i = ((i + j : Nat) : Int) ∧ l[j]? = some x ∧ l.find? p = some x := by
  intro l
  induction l with
  | nil => intro i; exact .inl ⟨rfl, rfl⟩
  | cons b r ih =>
    intro i
    by_cases e : p b = true
    · exact .inr ⟨0, b, by simp [idxF, e], rfl, by simp [e]⟩
    · rcases ih (i + 1) with ⟨h1, h2⟩ | ⟨j, x, h1, h2, h3⟩
      · exact .inl ⟨by simp [idxF, e, h1], by simp [e, h2]⟩
      · exact .inr ⟨j + 1, x, by simp only [idxF, Bool.eq_false_iff.2 e, cond_false, h1]; congr 1; omega, by simpa using h2, by simp [e, h3]⟩
end Go.Ev
