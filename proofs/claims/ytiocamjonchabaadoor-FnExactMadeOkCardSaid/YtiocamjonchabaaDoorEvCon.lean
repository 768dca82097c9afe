/- What the laws' own functions come to: sizes, copies, comparisons. Conditions: none. -/
import Derived.Test.YtiocamjonchabaaDoorEvMod
import Derived.Test.YtiocamjonchabaaDoorSh2
set_option linter.unusedSimpArgs false
set_option linter.unusedVariables false
namespace Go.Ev
open Go
theorem c_laws_szFile (x : MFile) (l : Int) (hx : x.Bd maxLen) (h0 : 0 ≤ l) (h1 : l ≤ 1099511627776) : out run_laws_szFile [.agg [Cell.str (bs x.Path), Cell.str (bs x.Text)], .one (Cell.int l)] = some [.one (Cell.int (szI x.wt l))] := by
  obtain ⟨b0, b1⟩ := hx
  have hM := maxLen_eq
  have k0 : x.Path.length ≤ maxLen := b0
  have q0 : wtS x.Path = x.Path.length := rfl
  have k1 : x.Text.length ≤ maxLen := b1
  have q1 : wtS x.Text = x.Text.length := rfl
  refine out_of (H := []) (run_laws_szFile_of 0 ?_)
  simp only [laws_szFile, MFile.wt, callS_canon, callL_canon, Option.map_some, Option.bind_some, shape_one, shape_agg, shape_nil, cellsAt_0, cellsAt_1, cellsAt_2, cellsAt_3, cells_one, cells_agg, cB_zero, cI_zero, cS_zero, cC_zero, cB_cons, cI_cons, cS_cons, cC_cons, cond_true, cond_false, List.length_cons, List.length_nil, beq_self_eq_true, Bool.and_true, Bool.true_and, lenC_encL, lenC_lst, deref_ref, emptyK_nil, bs_size, bs_toList]
  rw [wrap_small (by omega) (by omega)]
  by_cases g0 : (x.Path.length : Int) ≤ l
  · rw [decide_eq_false (by omega), cond_false]
    rw [wrap_small (by omega) (by omega)]
    by_cases g1 : (x.Text.length : Int) ≤ l - (x.Path.length : Int)
    · rw [decide_eq_false (by omega), cond_false]
      first | done | rw [szI_pos (by omega)]
      first | done | (congr 5 <;> omega)
    · rw [decide_eq_true (by omega), cond_true, szI_neg (by omega)]
  · rw [decide_eq_true (by omega), cond_true, szI_neg (by omega)]
theorem c_laws_szFileS (xs : List MFile) (l : Int) (hx : bdL maxLen (MFile.Bd maxLen) xs) (h0 : 0 ≤ l) (h1 : l ≤ 1099511627776) : out run_laws_szFileS [.one (encL 2 MFile.enc xs), .one (Cell.int l)] = some [.one (Cell.int (szI (wtL MFile.wt xs) l))] := by
  have loop : ∀ (ys : List MFile) (i n : Nat) (l : Int), xs.drop i = ys → ys.length < n → 0 ≤ l → l ≤ 1099511627776 → ∀ k m, laws_szFileS_l0 k m n (encL 2 MFile.enc xs) l i = some ([.one (Cell.int (szI (ys.map MFile.wt).sum l))], []) := by
    intro ys
    induction ys with
    | nil =>
      intro i n l hd hn h0 h1 k m
      obtain ⟨n, rfl⟩ : ∃ j, n = j + 1 := ⟨n - 1, by omega⟩
      have := drop_nil hd
      simp only [laws_szFileS_l0, lenC_encL, Option.bind_some]
      rw [decide_eq_false (by omega)]
      simp only [List.map_nil, List.sum_nil]
      rw [szI_zero h0, cond_false]
    | cons x ys ih =>
      intro i n l hd hn h0 h1 k m
      obtain ⟨n, rfl⟩ : ∃ j, n = j + 1 := ⟨n - 1, by omega⟩
      obtain ⟨hlt, hg, hd'⟩ := drop_cons hd
      have hxl := hx.1
      have hM := maxLen_eq
      have hb := hx.2 x (List.mem_of_getElem? hg)
      simp only [laws_szFileS_l0, idxA_encL, hg, MFile.enc, callS_canon, callL_canon, Option.map_some, Option.bind_some, shape_one, shape_agg, shape_nil, cellsAt_0, cellsAt_1, cellsAt_2, cellsAt_3, cells_one, cells_agg, cB_zero, cI_zero, cS_zero, cC_zero, cB_cons, cI_cons, cS_cons, cC_cons, cond_true, cond_false, List.length_cons, List.length_nil, beq_self_eq_true, Bool.and_true, Bool.true_and, lenC_encL, lenC_lst, deref_ref, emptyK_nil, bs_size, bs_toList]
      rw [decide_eq_true (by omega), cond_true, c_laws_szFile _ _ hb (by omega) (by omega)]
      simp only [callS_canon, callL_canon, Option.map_some, Option.bind_some, shape_one, shape_agg, shape_nil, cellsAt_0, cellsAt_1, cellsAt_2, cellsAt_3, cells_one, cells_agg, cB_zero, cI_zero, cS_zero, cC_zero, cB_cons, cI_cons, cS_cons, cC_cons, cond_true, cond_false, List.length_cons, List.length_nil, beq_self_eq_true, Bool.and_true, Bool.true_and, lenC_encL, lenC_lst, deref_ref, emptyK_nil, bs_size, bs_toList, condSz]
      rw [wrap_succ (by omega)]
      simp only [List.map_cons, List.sum_cons]
      simp only [List.length_cons] at hn
      by_cases g : (((MFile.wt x) : Nat) : Int) ≤ l
      · rw [if_pos g, szI_pos g, ih _ _ _ hd' (by omega) (by omega) (by omega), szI_add g]
      · rw [if_neg g, szI_over g]
  have hM := maxLen_eq
  have hxl := hx.1
  refine out_of (H := []) (run_laws_szFileS_of (xs.length + 1) ?_)
  simp only [laws_szFileS, lenC_encL, Option.bind_some]
  rw [wrap_small (by omega) (by omega)]
  by_cases g : (xs.length : Int) ≤ l
  · rw [decide_eq_false (by omega), cond_false]
    have := loop xs 0 (xs.length + 1 + 1) (l - xs.length) rfl (by omega) (by omega) (by omega) (xs.length + 1 + 1) (xs.length + 1 + 1)
    simp only [Int.natCast_zero] at this
    rw [this, szI_add g]
    rfl
  · rw [decide_eq_true (by omega), cond_true]
    have : szI (wtL MFile.wt xs) l = -1 := szI_over g
    rw [this]
theorem c_laws_szMade (x : MMade) (l : Int) (hx : x.Bd maxLen) (h0 : 0 ≤ l) (h1 : l ≤ 1099511627776) : out run_laws_szMade [.agg [Cell.str (bs x.Task), encL 2 MFile.enc x.Outs, Cell.str (bs x.Log)], .one (Cell.int l)] = some [.one (Cell.int (szI x.wt l))] := by
  obtain ⟨b0, b1, b2⟩ := hx
  have hM := maxLen_eq
  have k0 : x.Task.length ≤ maxLen := b0
  have q0 : wtS x.Task = x.Task.length := rfl
  have k2 : x.Log.length ≤ maxLen := b2
  have q2 : wtS x.Log = x.Log.length := rfl
  refine out_of (H := []) (run_laws_szMade_of 0 ?_)
  simp only [laws_szMade, MMade.wt, callS_canon, callL_canon, Option.map_some, Option.bind_some, shape_one, shape_agg, shape_nil, cellsAt_0, cellsAt_1, cellsAt_2, cellsAt_3, cells_one, cells_agg, cB_zero, cI_zero, cS_zero, cC_zero, cB_cons, cI_cons, cS_cons, cC_cons, cond_true, cond_false, List.length_cons, List.length_nil, beq_self_eq_true, Bool.and_true, Bool.true_and, lenC_encL, lenC_lst, deref_ref, emptyK_nil, bs_size, bs_toList]
  rw [wrap_small (by omega) (by omega)]
  by_cases g0 : (x.Task.length : Int) ≤ l
  · rw [decide_eq_false (by omega), cond_false]
    rw [c_laws_szFileS _ _ b1 (by omega) (by omega)]
    simp only [callS_canon, callL_canon, Option.map_some, Option.bind_some, shape_one, shape_agg, shape_nil, cellsAt_0, cellsAt_1, cellsAt_2, cellsAt_3, cells_one, cells_agg, cB_zero, cI_zero, cS_zero, cC_zero, cB_cons, cI_cons, cS_cons, cC_cons, cond_true, cond_false, List.length_cons, List.length_nil, beq_self_eq_true, Bool.and_true, Bool.true_and, lenC_encL, lenC_lst, deref_ref, emptyK_nil, bs_size, bs_toList, condSz]
    by_cases g1 : ((wtL MFile.wt x.Outs : Nat) : Int) ≤ l - (x.Task.length : Int)
    · rw [if_pos g1, szI_pos g1]
      rw [wrap_small (by omega) (by omega)]
      by_cases g2 : (x.Log.length : Int) ≤ l - (x.Task.length : Int) - ((wtL MFile.wt x.Outs : Nat) : Int)
      · rw [decide_eq_false (by omega), cond_false]
        first | done | rw [szI_pos (by omega)]
        first | done | (congr 5 <;> omega)
      · rw [decide_eq_true (by omega), cond_true, szI_neg (by omega)]
    · rw [if_neg g1, szI_neg (by omega)]
  · rw [decide_eq_true (by omega), cond_true, szI_neg (by omega)]
theorem c_laws_toFile (x : MFile) (hx : x.Bd 1048576) : out run_laws_toFile [.agg [Cell.str (bs x.Path), Cell.str (bs x.Text)]] = some [.agg [Cell.str (bs x.Path), Cell.str (bs x.Text)]] := by
  obtain ⟨b0, b1⟩ := hx
  refine out_of (H := []) (run_laws_toFile_of 0 ?_)
  simp only [laws_toFile, callS_canon, callL_canon, Option.map_some, Option.bind_some, shape_one, shape_agg, shape_nil, cellsAt_0, cellsAt_1, cellsAt_2, cellsAt_3, cells_one, cells_agg, cB_zero, cI_zero, cS_zero, cC_zero, cB_cons, cI_cons, cS_cons, cC_cons, cond_true, cond_false, List.length_cons, List.length_nil, beq_self_eq_true, Bool.and_true, Bool.true_and, lenC_encL, lenC_lst, deref_ref, emptyK_nil, bs_size, bs_toList]
theorem c_laws_toFileS (xs : List MFile) (hx : bdL 1048576 (MFile.Bd 1048576) xs) : outL run_laws_toFileS [.one (encL 2 MFile.enc xs)] = some [.one (encL 2 MFile.enc xs)] := by
  have hxl : xs.length ≤ 1048576 := hx.1
  have hM := maxLen_eq
  have loop : ∀ (ys : List MFile) (i n : Nat), xs.drop i = ys → ys.length < n → ∀ k m, laws_toFileS_l0 k m n (encL 2 MFile.enc xs) (.vs 0 2 0 xs.length 0) i [Entry.mk 2 (filled MFile.enc [Cell.str (bs []), Cell.str (bs [])] xs i) 0 false] = some ([.one (.vs 0 2 0 xs.length 0)], [Entry.mk 2 (xs.map MFile.enc) 0 false]) := by
    intro ys
    induction ys with
    | nil =>
      intro i n hd hn k m
      obtain ⟨n, rfl⟩ : ∃ j, n = j + 1 := ⟨n - 1, by omega⟩
      have := drop_nil hd
      simp only [laws_toFileS_l0, lenC_encL, Option.bind_some]
      rw [decide_eq_false (by omega), cond_false]
      have : filled MFile.enc [Cell.str (bs []), Cell.str (bs [])] xs i = xs.map MFile.enc := by simp [filled, List.take_of_length_le this, show xs.length - i = 0 by omega]
      rw [this]
    | cons x ys ih =>
      intro i n hd hn k m
      obtain ⟨n, rfl⟩ : ∃ j, n = j + 1 := ⟨n - 1, by omega⟩
      obtain ⟨hlt, hg, hd'⟩ := drop_cons hd
      simp only [List.length_cons] at hn
      have hb := hx.2 x (List.mem_of_getElem? hg)
      simp only [laws_toFileS_l0, idxA_encL, hg, MFile.enc, c_laws_toFile _ hb, callS_canon, callL_canon, Option.map_some, Option.bind_some, shape_one, shape_agg, shape_nil, cellsAt_0, cellsAt_1, cellsAt_2, cellsAt_3, cells_one, cells_agg, cB_zero, cI_zero, cS_zero, cC_zero, cB_cons, cI_cons, cS_cons, cC_cons, cond_true, cond_false, List.length_cons, List.length_nil, beq_self_eq_true, Bool.and_true, Bool.true_and, lenC_encL, lenC_lst, deref_ref, emptyK_nil, bs_size, bs_toList]
      rw [decide_eq_true (by omega), cond_true, idxA_vs _ _ _ _ _ hlt]
      have hs : hStore [Entry.mk 2 (filled MFile.enc [Cell.str (bs []), Cell.str (bs [])] xs i) 0 false] (.ptr 0 2 i 0 0) (MFile.enc x) = some [Entry.mk 2 (filled MFile.enc [Cell.str (bs []), Cell.str (bs [])] xs (i + 1)) 0 false] := by
        rw [hStore_row (sz := 2) (filled_at MFile.enc _ hlt) rfl rfl, filled_set MFile.enc _ hg]
      simp only [MFile.enc] at hs
      simp only [Option.bind_some, hs]
      rw [wrap_succ (by omega)]
      exact ih _ _ hd' (by omega) _ _
  refine outL_of (H := [Entry.mk 2 (xs.map MFile.enc) 0 false]) (run_laws_toFileS_of (xs.length + 1) ?_) (reify_vs MFile.enc xs 0 false)
  simp only [laws_toFileS, lenC_encL, Option.bind_some]
  rw [if_pos (by unfold bound; refine ⟨?_, ?_, ?_, ?_⟩ <;> omega)]
  have := loop xs 0 (xs.length + 1 + 1) rfl (by omega) (xs.length + 1 + 1) (xs.length + 1 + 1)
  rw [filled_zero] at this
  exact this
theorem c_laws_toMade (x : MMade) (hx : x.Bd 1048576) : outL run_laws_toMade [.agg [Cell.str (bs x.Task), encL 2 MFile.enc x.Outs, Cell.str (bs x.Log)]] = some [.agg [Cell.str (bs x.Task), encL 2 MFile.enc x.Outs, Cell.str (bs x.Log)]] := by
  obtain ⟨b0, b1, b2⟩ := hx
  refine outL_canon (H := []) (run_laws_toMade_of 0 ?_)
  simp only [laws_toMade, c_laws_toFileS _ b1, callS_canon, callL_canon, Option.map_some, Option.bind_some, shape_one, shape_agg, shape_nil, cellsAt_0, cellsAt_1, cellsAt_2, cellsAt_3, cells_one, cells_agg, cB_zero, cI_zero, cS_zero, cC_zero, cB_cons, cI_cons, cS_cons, cC_cons, cond_true, cond_false, List.length_cons, List.length_nil, beq_self_eq_true, Bool.and_true, Bool.true_and, lenC_encL, lenC_lst, deref_ref, emptyK_nil, bs_size, bs_toList]
theorem c_laws_eqFile (x y : MFile) (hx : x.Bd 1048576) (hy : y.Bd 1048576) : out run_laws_eqFile [.agg [Cell.str (bs x.Path), Cell.str (bs x.Text)], .agg [Cell.str (bs y.Path), Cell.str (bs y.Text)]] = some [.one (Cell.bool (decide (x = y)))] := by
  obtain ⟨b0, b1⟩ := hx
  obtain ⟨d0, d1⟩ := hy
  refine out_of (H := []) (run_laws_eqFile_of 0 ?_)
  simp only [laws_eqFile, callS_canon, callL_canon, Option.map_some, Option.bind_some, shape_one, shape_agg, shape_nil, cellsAt_0, cellsAt_1, cellsAt_2, cellsAt_3, cells_one, cells_agg, cB_zero, cI_zero, cS_zero, cC_zero, cB_cons, cI_cons, cS_cons, cC_cons, cond_true, cond_false, List.length_cons, List.length_nil, beq_self_eq_true, Bool.and_true, Bool.true_and, lenC_encL, lenC_lst, deref_ref, emptyK_nil, bs_size, bs_toList, condF, condNe]
  congr 5
  rw [Bool.eq_iff_iff]
  cases x; cases y
  simp [MFile.mk.injEq]
theorem c_laws_eqFileS (xs ys : List MFile) (hx : bdL 1048576 (MFile.Bd 1048576) xs) (hy : bdL 1048576 (MFile.Bd 1048576) ys) : out run_laws_eqFileS [.one (encL 2 MFile.enc xs), .one (encL 2 MFile.enc ys)] = some [.one (Cell.bool (decide (xs = ys)))] := by
  have hxl : xs.length ≤ 1048576 := hx.1
  have hM := maxLen_eq
  have loop : xs.length = ys.length → ∀ (us vs : List MFile) (i n : Nat), xs.drop i = us → ys.drop i = vs → us.length < n → ∀ k m, laws_eqFileS_l0 k m n (encL 2 MFile.enc xs) (encL 2 MFile.enc ys) i = some ([.one (Cell.bool (decide (us = vs)))], []) := by
    intro hlen us
    induction us with
    | nil =>
      intro vs i n hd he hn k m
      obtain ⟨n, rfl⟩ : ∃ j, n = j + 1 := ⟨n - 1, by omega⟩
      have := drop_nil hd
      have hv : vs = [] := by rw [← he]; exact List.drop_eq_nil_of_le (by omega)
      subst hv
      simp only [laws_eqFileS_l0, lenC_encL, Option.bind_some]
      rw [decide_eq_false (by omega)]
      simp
    | cons x us ih =>
      intro vs i n hd he hn k m
      obtain ⟨n, rfl⟩ : ∃ j, n = j + 1 := ⟨n - 1, by omega⟩
      obtain ⟨hlt, hgx, hd'⟩ := drop_cons hd
      cases vs with
      | nil => have := drop_nil he; omega
      | cons y vs =>
      obtain ⟨hlt', hgy, he'⟩ := drop_cons he
      simp only [List.length_cons] at hn
      have hbx := hx.2 x (List.mem_of_getElem? hgx)
      have hby := hy.2 y (List.mem_of_getElem? hgy)
      simp only [laws_eqFileS_l0, idxA_encL, hgx, hgy, MFile.enc, c_laws_eqFile _ _ hbx hby, callS_canon, callL_canon, Option.map_some, Option.bind_some, shape_one, shape_agg, shape_nil, cellsAt_0, cellsAt_1, cellsAt_2, cellsAt_3, cells_one, cells_agg, cB_zero, cI_zero, cS_zero, cC_zero, cB_cons, cI_cons, cS_cons, cC_cons, cond_true, cond_false, List.length_cons, List.length_nil, beq_self_eq_true, Bool.and_true, Bool.true_and, lenC_encL, lenC_lst, deref_ref, emptyK_nil, bs_size, bs_toList]
      rw [decide_eq_true (by omega)]
      simp only [callS_canon, callL_canon, Option.map_some, Option.bind_some, shape_one, shape_agg, shape_nil, cellsAt_0, cellsAt_1, cellsAt_2, cellsAt_3, cells_one, cells_agg, cB_zero, cI_zero, cS_zero, cC_zero, cB_cons, cI_cons, cS_cons, cC_cons, cond_true, cond_false, List.length_cons, List.length_nil, beq_self_eq_true, Bool.and_true, Bool.true_and, lenC_encL, lenC_lst, deref_ref, emptyK_nil, bs_size, bs_toList]
      rw [wrap_succ (by omega), ih vs (i + 1) n hd' he' (by omega), condF]
      congr 5
      rw [Bool.eq_iff_iff]
      simp
  refine out_of (H := []) (run_laws_eqFileS_of (xs.length + 1) ?_)
  simp only [laws_eqFileS, lenC_encL, Option.bind_some]
  by_cases h : xs.length = ys.length
  · rw [show (((xs.length : Nat) : Int) != (ys.length : Int)) = false by simp [h], cond_false]
    exact loop h xs ys 0 _ rfl rfl (by omega) _ _
  · rw [show (((xs.length : Nat) : Int) != (ys.length : Int)) = true by simp only [bne_iff_ne, ne_eq]; omega, cond_true]
    have : xs ≠ ys := fun e => h (by rw [e])
    simp [this]
theorem c_laws_eqMade (x y : MMade) (hx : x.Bd 1048576) (hy : y.Bd 1048576) : out run_laws_eqMade [.agg [Cell.str (bs x.Task), encL 2 MFile.enc x.Outs, Cell.str (bs x.Log)], .agg [Cell.str (bs y.Task), encL 2 MFile.enc y.Outs, Cell.str (bs y.Log)]] = some [.one (Cell.bool (decide (x = y)))] := by
  obtain ⟨b0, b1, b2⟩ := hx
  obtain ⟨d0, d1, d2⟩ := hy
  refine out_of (H := []) (run_laws_eqMade_of 0 ?_)
  simp only [laws_eqMade, c_laws_eqFileS _ _ b1 d1, callS_canon, callL_canon, Option.map_some, Option.bind_some, shape_one, shape_agg, shape_nil, cellsAt_0, cellsAt_1, cellsAt_2, cellsAt_3, cells_one, cells_agg, cB_zero, cI_zero, cS_zero, cC_zero, cB_cons, cI_cons, cS_cons, cC_cons, cond_true, cond_false, List.length_cons, List.length_nil, beq_self_eq_true, Bool.and_true, Bool.true_and, lenC_encL, lenC_lst, deref_ref, emptyK_nil, bs_size, bs_toList, condF, condNe]
  congr 5
  rw [Bool.eq_iff_iff]
  cases x; cases y
  simp [MMade.mk.injEq]
end Go.Ev
