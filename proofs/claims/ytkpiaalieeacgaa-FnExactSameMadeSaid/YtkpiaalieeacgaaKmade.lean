/- What the functions come to (made). Conditions: none. -/
import Derived.Test.YtkpiaalieeacgaaEvCon
set_option linter.unusedSimpArgs false
set_option linter.unusedVariables false
namespace Go.Ev
open Go
theorem c_spec_l16SameFiles (xs ys : List MFile) (hx : xs.length ≤ 1048576) : out run_spec_l16SameFiles [.one (encL 2 MFile.enc xs), .one (encL 2 MFile.enc ys)] = some [.one (Cell.bool (decide (xs = ys)))] := by
  have hM := maxLen_eq
  have loop : xs.length = ys.length → ∀ (us vs : List MFile) (i n : Nat), xs.drop i = us → ys.drop i = vs → us.length < n → ∀ k m, spec_l16SameFiles_l0 k m n (encL 2 MFile.enc xs) (encL 2 MFile.enc ys) i = some ([.one (Cell.bool (decide (us = vs)))], []) := by
    intro hlen us
    induction us with
    | nil =>
      intro vs i n hd he hn k m
      obtain ⟨n, rfl⟩ : ∃ j, n = j + 1 := ⟨n - 1, by omega⟩
      have := drop_nil hd
      have hv : vs = [] := by rw [← he]; exact List.drop_eq_nil_of_le (by omega)
      subst hv
      simp only [spec_l16SameFiles_l0, lenC_encL, Option.bind_some]
      rw [decide_eq_false (by omega)]
      simp
    | cons x us ih =>
      intro vs i n hd he hn k m
      obtain ⟨n, rfl⟩ : ∃ j, n = j + 1 := ⟨n - 1, by omega⟩
      obtain ⟨hlt, hgx, hd'⟩ := drop_cons hd
      cases vs with
      | nil => have := drop_nil he; omega
      | cons y vs =>
      obtain ⟨hlt', hgy, he'⟩ := drop_cons he
      simp only [List.length_cons] at hn
      simp only [spec_l16SameFiles_l0, idxA_encL, hgx, hgy, MFile.enc, eqCells, eqCell, callS_canon, callL_canon, Option.map_some, Option.bind_some, shape_one, shape_agg, shape_nil, cellsAt_0, cellsAt_1, cellsAt_2, cellsAt_3, cells_one, cells_agg, cB_zero, cI_zero, cS_zero, cC_zero, cB_cons, cI_cons, cS_cons, cC_cons, cond_true, cond_false, List.length_cons, List.length_nil, beq_self_eq_true, Bool.and_true, Bool.true_and, lenC_encL, lenC_lst, deref_ref, emptyK_nil, bs_size, bs_toList]
      rw [decide_eq_true (by omega)]
      simp only [callS_canon, callL_canon, Option.map_some, Option.bind_some, shape_one, shape_agg, shape_nil, cellsAt_0, cellsAt_1, cellsAt_2, cellsAt_3, cells_one, cells_agg, cB_zero, cI_zero, cS_zero, cC_zero, cB_cons, cI_cons, cS_cons, cC_cons, cond_true, cond_false, List.length_cons, List.length_nil, beq_self_eq_true, Bool.and_true, Bool.true_and, lenC_encL, lenC_lst, deref_ref, emptyK_nil, bs_size, bs_toList]
      rw [wrap_succ (by omega), ih vs (i + 1) n hd' he' (by omega), condF]
      congr 5
      rw [Bool.eq_iff_iff]
      cases x; cases y
      simp [and_assoc]
  refine out_of (H := []) (run_spec_l16SameFiles_of (xs.length + 1) ?_)
  simp only [spec_l16SameFiles, lenC_encL, Option.bind_some]
  by_cases h : xs.length = ys.length
  · rw [show (((xs.length : Nat) : Int) != (ys.length : Int)) = false by simp [h], cond_false]
    exact loop h xs ys 0 _ rfl rfl (by omega) _ _
  · rw [show (((xs.length : Nat) : Int) != (ys.length : Int)) = true by simp only [bne_iff_ne, ne_eq]; omega, cond_true]
    have : xs ≠ ys := fun e => h (by rw [e])
    simp [this]
theorem c_slices_Equal_File (xs ys : List MFile) (hx : xs.length ≤ 1048576) : out run_slices_Equal_File [.one (encL 2 MFile.enc xs), .one (encL 2 MFile.enc ys)] = some [.one (Cell.bool (decide (xs = ys)))] := by
  have hM := maxLen_eq
  have loop : xs.length = ys.length → ∀ (us vs : List MFile) (i n : Nat), xs.drop i = us → ys.drop i = vs → us.length < n → ∀ k m, slices_Equal_File_l0 k m n (encL 2 MFile.enc xs) (encL 2 MFile.enc ys) xs.length i = some ([.one (Cell.bool (decide (us = vs)))], []) := by
    intro hlen us
    induction us with
    | nil =>
      intro vs i n hd he hn k m
      obtain ⟨n, rfl⟩ : ∃ j, n = j + 1 := ⟨n - 1, by omega⟩
      have := drop_nil hd
      have hv : vs = [] := by rw [← he]; exact List.drop_eq_nil_of_le (by omega)
      subst hv
      simp only [slices_Equal_File_l0]
      rw [decide_eq_false (by omega)]
      simp
    | cons x us ih =>
      intro vs i n hd he hn k m
      obtain ⟨n, rfl⟩ : ∃ j, n = j + 1 := ⟨n - 1, by omega⟩
      obtain ⟨hlt, hgx, hd'⟩ := drop_cons hd
      cases vs with
      | nil => have := drop_nil he; omega
      | cons y vs =>
      obtain ⟨hlt', hgy, he'⟩ := drop_cons he
      simp only [List.length_cons] at hn
      simp only [slices_Equal_File_l0, idxA_encL, hgx, hgy, MFile.enc, eqCells, eqCell, callS_canon, callL_canon, Option.map_some, Option.bind_some, shape_one, shape_agg, shape_nil, cellsAt_0, cellsAt_1, cellsAt_2, cellsAt_3, cells_one, cells_agg, cB_zero, cI_zero, cS_zero, cC_zero, cB_cons, cI_cons, cS_cons, cC_cons, cond_true, cond_false, List.length_cons, List.length_nil, beq_self_eq_true, Bool.and_true, Bool.true_and, lenC_encL, lenC_lst, deref_ref, emptyK_nil, bs_size, bs_toList]
      rw [decide_eq_true (by omega)]
      simp only [callS_canon, callL_canon, Option.map_some, Option.bind_some, shape_one, shape_agg, shape_nil, cellsAt_0, cellsAt_1, cellsAt_2, cellsAt_3, cells_one, cells_agg, cB_zero, cI_zero, cS_zero, cC_zero, cB_cons, cI_cons, cS_cons, cC_cons, cond_true, cond_false, List.length_cons, List.length_nil, beq_self_eq_true, Bool.and_true, Bool.true_and, lenC_encL, lenC_lst, deref_ref, emptyK_nil, bs_size, bs_toList]
      rw [wrap_succ (by omega), ih vs (i + 1) n hd' he' (by omega), condF]
      congr 5
      rw [Bool.eq_iff_iff]
      cases x; cases y
      simp [and_assoc]
  refine out_of (H := []) (run_slices_Equal_File_of (xs.length + 1) ?_)
  simp only [slices_Equal_File, lenC_encL, Option.bind_some]
  by_cases h : xs.length = ys.length
  · rw [show (((xs.length : Nat) : Int) != (ys.length : Int)) = false by simp [h], cond_false]
    exact loop h xs ys 0 _ rfl rfl (by omega) _ _
  · rw [show (((xs.length : Nat) : Int) != (ys.length : Int)) = true by simp only [bne_iff_ne, ne_eq]; omega, cond_true]
    have : xs ≠ ys := fun e => h (by rw [e])
    simp [this]
theorem c_spec_SameMade (x y : MMade) (hx : x.Bd 1048576) : out run_spec_SameMade [.agg [Cell.str (bs x.Task), encL 2 MFile.enc x.Outs, Cell.str (bs x.Log)], .agg [Cell.str (bs y.Task), encL 2 MFile.enc y.Outs, Cell.str (bs y.Log)]] = some [.one (Cell.bool (x.Task == y.Task && (x.Log == y.Log && decide (x.Outs = y.Outs))))] := by
  refine out_of (H := []) (run_spec_SameMade_of 0 ?_)
  simp only [spec_SameMade, c_spec_l16SameFiles _ _ hx.2.1.1, callS_canon, callL_canon, Option.map_some, Option.bind_some, shape_one, shape_agg, shape_nil, cellsAt_0, cellsAt_1, cellsAt_2, cellsAt_3, cells_one, cells_agg, cB_zero, cI_zero, cS_zero, cC_zero, cB_cons, cI_cons, cS_cons, cC_cons, cond_true, cond_false, List.length_cons, List.length_nil, beq_self_eq_true, Bool.and_true, Bool.true_and, lenC_encL, lenC_lst, deref_ref, emptyK_nil, bs_size, bs_toList]
  cases (x.Task == y.Task) <;> cases (x.Log == y.Log) <;> rfl
theorem c_impl_SameMade (x y : MMade) (hx : x.Bd 1048576) : out run_impl_SameMade [.agg [Cell.str (bs x.Task), encL 2 MFile.enc x.Outs, Cell.str (bs x.Log)], .agg [Cell.str (bs y.Task), encL 2 MFile.enc y.Outs, Cell.str (bs y.Log)]] = some [.one (Cell.bool (x.Task == y.Task && (x.Log == y.Log && decide (x.Outs = y.Outs))))] := by
  refine out_of (H := []) (run_impl_SameMade_of 0 ?_)
  simp only [impl_SameMade, c_slices_Equal_File _ _ hx.2.1.1, callS_canon, callL_canon, Option.map_some, Option.bind_some, shape_one, shape_agg, shape_nil, cellsAt_0, cellsAt_1, cellsAt_2, cellsAt_3, cells_one, cells_agg, cB_zero, cI_zero, cS_zero, cC_zero, cB_cons, cI_cons, cS_cons, cC_cons, cond_true, cond_false, List.length_cons, List.length_nil, beq_self_eq_true, Bool.and_true, Bool.true_and, lenC_encL, lenC_lst, deref_ref, emptyK_nil, bs_size, bs_toList]
  cases (x.Task == y.Task) <;> cases (x.Log == y.Log) <;> rfl

end Go.Ev
