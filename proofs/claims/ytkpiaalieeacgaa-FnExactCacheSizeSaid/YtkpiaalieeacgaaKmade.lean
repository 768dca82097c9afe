/- What the functions come to (made). Conditions: none. -/
import Derived.Test.YtkpiaalieeacgaaEvCon
set_option linter.unusedSimpArgs false
set_option linter.unusedVariables false
namespace Go.Ev
open Go
def cacheSize (l : List MSlot) : Nat := (l.map fun s => s.B.length).sum
theorem cacheSize_le {l : List MSlot} (h : bdL 1048576 (MSlot.Bd 1048576) l) : cacheSize l ≤ l.length * 1048576 := by
  have := h.2
  unfold cacheSize
  clear h
  induction l with
  | nil => simp
  | cons x l ih =>
    have h1 : x.B.length ≤ 1048576 := (this x (by simp)).2
    have h2 := ih fun y hy => this y (by simp [hy])
    simp only [List.map_cons, List.sum_cons, List.length_cons]
    omega
theorem c_spec_CacheSize (xs : List MSlot) (hx : bdL 1048576 (MSlot.Bd 1048576) xs) : out run_spec_CacheSize [.one (encL 2 MSlot.enc xs)] = some [.one (Cell.int (cacheSize xs))] := by
  have hM := maxLen_eq
  have hxl := hx.1
  have loop : ∀ (ys : List MSlot) (i n a : Nat), xs.drop i = ys → ys.length < n → a ≤ i * 1048576 → ∀ k m, spec_CacheSize_l0 k m n (encL 2 MSlot.enc xs) a i = some ([.one (Cell.int ((a + cacheSize ys : Nat) : Int))], []) := by
    intro ys
    induction ys with
    | nil =>
      intro i n a hd hn ha k m
      obtain ⟨n, rfl⟩ : ∃ j, n = j + 1 := ⟨n - 1, by omega⟩
      have := drop_nil hd
      simp only [spec_CacheSize_l0, lenC_encL, Option.bind_some]
      rw [decide_eq_false (by omega), cond_false]
      simp [cacheSize]
    | cons x ys ih =>
      intro i n a hd hn ha k m
      obtain ⟨n, rfl⟩ : ∃ j, n = j + 1 := ⟨n - 1, by omega⟩
      obtain ⟨hlt, hg, hd'⟩ := drop_cons hd
      have hb : x.B.length ≤ 1048576 := (hx.2 x (List.mem_of_getElem? hg)).2
      simp only [List.length_cons] at hn
      simp only [spec_CacheSize_l0, lenC_encL, Option.bind_some, idxA_encL, hg, Option.map_some, fldA_ref, MSlot.enc, deref_ref, cC_cons, cC_zero]
      rw [decide_eq_true (by omega), cond_true, wrap_succ (by omega), wrap_small (by omega) (by omega)]
      have := ih (i + 1) n (a + x.B.length) hd' (by omega) (by omega) k m
      rw [show ((a : Int) + (x.B.length : Int)) = ((a + x.B.length : Nat) : Int) by omega, this]
      simp only [cacheSize, List.map_cons, List.sum_cons]
      congr 5
      omega
  refine out_of (H := []) (run_spec_CacheSize_of (xs.length + 1) ?_)
  have := loop xs 0 (xs.length + 1 + 1) 0 rfl (by omega) (by omega) (xs.length + 1 + 1) (xs.length + 1 + 1)
  simpa [spec_CacheSize] using this
theorem c_impl_CacheSize (xs : List MSlot) (hx : bdL 1048576 (MSlot.Bd 1048576) xs) : out run_impl_CacheSize [.one (encL 2 MSlot.enc xs)] = some [.one (Cell.int (cacheSize xs))] := by
  have hM := maxLen_eq
  have hxl := hx.1
  have loop : ∀ (ys : List MSlot) (i n a : Nat), xs.drop i = ys → ys.length < n → a ≤ i * 1048576 → ∀ k m, impl_CacheSize_l0 k m n a (encL 2 MSlot.enc xs) xs.length i = some ([.one (Cell.int ((a + cacheSize ys : Nat) : Int))], []) := by
    intro ys
    induction ys with
    | nil =>
      intro i n a hd hn ha k m
      obtain ⟨n, rfl⟩ : ∃ j, n = j + 1 := ⟨n - 1, by omega⟩
      have := drop_nil hd
      simp only [impl_CacheSize_l0]
      rw [decide_eq_false (by omega), cond_false]
      simp [cacheSize]
    | cons x ys ih =>
      intro i n a hd hn ha k m
      obtain ⟨n, rfl⟩ : ∃ j, n = j + 1 := ⟨n - 1, by omega⟩
      obtain ⟨hlt, hg, hd'⟩ := drop_cons hd
      have hb : x.B.length ≤ 1048576 := (hx.2 x (List.mem_of_getElem? hg)).2
      simp only [List.length_cons] at hn
      simp only [impl_CacheSize_l0, lenC_encL, Option.bind_some, idxA_encL, hg, Option.map_some, MSlot.enc, deref_ref, cC_cons, cC_zero]
      rw [decide_eq_true (by omega), cond_true, wrap_succ (by omega), wrap_small (by omega) (by omega)]
      have := ih (i + 1) n (a + x.B.length) hd' (by omega) (by omega) k m
      rw [show ((a : Int) + (x.B.length : Int)) = ((a + x.B.length : Nat) : Int) by omega, this]
      simp only [cacheSize, List.map_cons, List.sum_cons]
      congr 5
      omega
  refine out_of (H := []) (run_impl_CacheSize_of (xs.length + 1) ?_)
  have := loop xs 0 (xs.length + 1 + 1) 0 rfl (by omega) (by omega) (xs.length + 1 + 1) (xs.length + 1 + 1)
  simpa [impl_CacheSize] using this
end Go.Ev
