/- What the laws' own functions come to: sizes, copies, comparisons. Conditions: none. -/
import Derived.Test.YtohfdpklicamkaaDoorEvMod
import Derived.Test.YtohfdpklicamkaaDoorSh1
set_option linter.unusedSimpArgs false
set_option linter.unusedVariables false
namespace Go.Ev
open Go
theorem c_laws_szStringS (xs : List Str) (l : Int) (hx : bdL maxLen (bdS maxLen) xs) (h0 : 0 ≤ l) (h1 : l ≤ 1099511627776) : out run_laws_szStringS [.one (encL 1 eStr xs), .one (Cell.int l)] = some [.one (Cell.int (szI (wtL wtS xs) l))] := by
  have loop : ∀ (ys : List Str) (i n : Nat) (l : Int), xs.drop i = ys → ys.length < n → 0 ≤ l → l ≤ 1099511627776 → ∀ k m, laws_szStringS_l0 k m n (encL 1 eStr xs) l i = some ([.one (Cell.int (szI (ys.map wtS).sum l))], []) := by
    intro ys
    induction ys with
    | nil =>
      intro i n l hd hn h0 h1 k m
      obtain ⟨n, rfl⟩ : ∃ j, n = j + 1 := ⟨n - 1, by omega⟩
      have := drop_nil hd
      simp only [laws_szStringS_l0, lenC_encL, Option.bind_some]
      rw [decide_eq_false (by omega)]
      simp only [List.map_nil, List.sum_nil]
      rw [szI_zero h0, cond_false]
    | cons x ys ih =>
      intro i n l hd hn h0 h1 k m
      obtain ⟨n, rfl⟩ : ∃ j, n = j + 1 := ⟨n - 1, by omega⟩
      obtain ⟨hlt, hg, hd'⟩ := drop_cons hd
      have hxl := hx.1
      have hM := maxLen_eq
      have hb : x.length ≤ maxLen := hx.2 x (List.mem_of_getElem? hg)
      simp only [laws_szStringS_l0, lenC_encL, Option.bind_some, idxA_encL, hg, Option.map_some, deref_ref, eStr, cS_zero, bs_size]
      rw [decide_eq_true (by omega), cond_true, wrap_succ (by omega), wrap_small (by omega) (by omega)]
      simp only [List.map_cons, List.sum_cons, wtS]
      simp only [List.length_cons] at hn
      by_cases g : (x.length : Int) ≤ l
      · rw [decide_eq_false (by omega), cond_false, ih _ _ _ hd' (by omega) (by omega) (by omega), szI_add g]
      · rw [decide_eq_true (by omega), cond_true, szI_over g]
  have hM := maxLen_eq
  have hxl := hx.1
  refine out_of (H := []) (run_laws_szStringS_of (xs.length + 1) ?_)
  simp only [laws_szStringS, lenC_encL, Option.bind_some]
  rw [wrap_small (by omega) (by omega)]
  by_cases g : (xs.length : Int) ≤ l
  · rw [decide_eq_false (by omega), cond_false]
    have := loop xs 0 (xs.length + 1 + 1) (l - xs.length) rfl (by omega) (by omega) (by omega) (xs.length + 1 + 1) (xs.length + 1 + 1)
    simp only [Int.natCast_zero] at this
    rw [this, szI_add g]
    rfl
  · rw [decide_eq_true (by omega), cond_true]
    have : szI (wtL wtS xs) l = -1 := szI_over g
    rw [this]
theorem c_laws_szVer (x : MVer) (l : Int) (hx : x.Bd maxLen) (h0 : 0 ≤ l) (h1 : l ≤ 1099511627776) : out run_laws_szVer [.agg [Cell.int x.A, Cell.int x.B, Cell.int x.C, encL 1 eStr x.Pre], .one (Cell.int l)] = some [.one (Cell.int (szI x.wt l))] := by
  obtain ⟨b0, b1, b2, b3⟩ := hx
  have hM := maxLen_eq
  refine out_of (H := []) (run_laws_szVer_of 0 ?_)
  simp only [laws_szVer, MVer.wt, callS_canon, callL_canon, Option.map_some, Option.bind_some, shape_one, shape_agg, shape_nil, cellsAt_0, cellsAt_1, cellsAt_2, cellsAt_3, cells_one, cells_agg, cB_zero, cI_zero, cS_zero, cC_zero, cB_cons, cI_cons, cS_cons, cC_cons, cond_true, cond_false, List.length_cons, List.length_nil, beq_self_eq_true, Bool.and_true, Bool.true_and, lenC_encL, lenC_lst, deref_ref, emptyK_nil, bs_size, bs_toList]
  rw [c_laws_szStringS _ _ b3 (by omega) (by omega)]
  simp only [callS_canon, callL_canon, Option.map_some, Option.bind_some, shape_one, shape_agg, shape_nil, cellsAt_0, cellsAt_1, cellsAt_2, cellsAt_3, cells_one, cells_agg, cB_zero, cI_zero, cS_zero, cC_zero, cB_cons, cI_cons, cS_cons, cC_cons, cond_true, cond_false, List.length_cons, List.length_nil, beq_self_eq_true, Bool.and_true, Bool.true_and, lenC_encL, lenC_lst, deref_ref, emptyK_nil, bs_size, bs_toList, condSz]
  by_cases g3 : ((wtL wtS x.Pre : Nat) : Int) ≤ l
  · rw [if_pos g3, szI_pos g3]
    first | done | rw [szI_pos (by omega)]
    first | done | (congr 5 <;> omega)
  · rw [if_neg g3, szI_neg (by omega)]
theorem c_laws_szPick (x : MPick) (l : Int) (hx : x.Bd maxLen) (h0 : 0 ≤ l) (h1 : l ≤ 1099511627776) : out run_laws_szPick [.agg [Cell.str (bs x.Name), Cell.int x.V.A, Cell.int x.V.B, Cell.int x.V.C, encL 1 eStr x.V.Pre], .one (Cell.int l)] = some [.one (Cell.int (szI x.wt l))] := by
  obtain ⟨b0, b1⟩ := hx
  have hM := maxLen_eq
  have k0 : x.Name.length ≤ maxLen := b0
  have q0 : wtS x.Name = x.Name.length := rfl
  refine out_of (H := []) (run_laws_szPick_of 0 ?_)
  simp only [laws_szPick, MPick.wt, callS_canon, callL_canon, Option.map_some, Option.bind_some, shape_one, shape_agg, shape_nil, cellsAt_0, cellsAt_1, cellsAt_2, cellsAt_3, cells_one, cells_agg, cB_zero, cI_zero, cS_zero, cC_zero, cB_cons, cI_cons, cS_cons, cC_cons, cond_true, cond_false, List.length_cons, List.length_nil, beq_self_eq_true, Bool.and_true, Bool.true_and, lenC_encL, lenC_lst, deref_ref, emptyK_nil, bs_size, bs_toList]
  rw [wrap_small (by omega) (by omega)]
  by_cases g0 : (x.Name.length : Int) ≤ l
  · rw [decide_eq_false (by omega), cond_false]
    rw [c_laws_szVer _ _ b1 (by omega) (by omega)]
    simp only [callS_canon, callL_canon, Option.map_some, Option.bind_some, shape_one, shape_agg, shape_nil, cellsAt_0, cellsAt_1, cellsAt_2, cellsAt_3, cells_one, cells_agg, cB_zero, cI_zero, cS_zero, cC_zero, cB_cons, cI_cons, cS_cons, cC_cons, cond_true, cond_false, List.length_cons, List.length_nil, beq_self_eq_true, Bool.and_true, Bool.true_and, lenC_encL, lenC_lst, deref_ref, emptyK_nil, bs_size, bs_toList, condSz]
    by_cases g1 : ((MVer.wt x.V : Nat) : Int) ≤ l - (x.Name.length : Int)
    · rw [if_pos g1, szI_pos g1]
      first | done | rw [szI_pos (by omega)]
      first | done | (congr 5 <;> omega)
    · rw [if_neg g1, szI_neg (by omega)]
  · rw [decide_eq_true (by omega), cond_true, szI_neg (by omega)]
theorem c_laws_szPickS (xs : List MPick) (l : Int) (hx : bdL maxLen (MPick.Bd maxLen) xs) (h0 : 0 ≤ l) (h1 : l ≤ 1099511627776) : out run_laws_szPickS [.one (encL 5 MPick.enc xs), .one (Cell.int l)] = some [.one (Cell.int (szI (wtL MPick.wt xs) l))] := by
  have loop : ∀ (ys : List MPick) (i n : Nat) (l : Int), xs.drop i = ys → ys.length < n → 0 ≤ l → l ≤ 1099511627776 → ∀ k m, laws_szPickS_l0 k m n (encL 5 MPick.enc xs) l i = some ([.one (Cell.int (szI (ys.map MPick.wt).sum l))], []) := by
    intro ys
    induction ys with
    | nil =>
      intro i n l hd hn h0 h1 k m
      obtain ⟨n, rfl⟩ : ∃ j, n = j + 1 := ⟨n - 1, by omega⟩
      have := drop_nil hd
      simp only [laws_szPickS_l0, lenC_encL, Option.bind_some]
      rw [decide_eq_false (by omega)]
      simp only [List.map_nil, List.sum_nil]
      rw [szI_zero h0, cond_false]
    | cons x ys ih =>
      intro i n l hd hn h0 h1 k m
      obtain ⟨n, rfl⟩ : ∃ j, n = j + 1 := ⟨n - 1, by omega⟩
      obtain ⟨hlt, hg, hd'⟩ := drop_cons hd
      have hxl := hx.1
      have hM := maxLen_eq
      have hb := hx.2 x (List.mem_of_getElem? hg)
      simp only [laws_szPickS_l0, idxA_encL, hg, MPick.enc, callS_canon, callL_canon, Option.map_some, Option.bind_some, shape_one, shape_agg, shape_nil, cellsAt_0, cellsAt_1, cellsAt_2, cellsAt_3, cells_one, cells_agg, cB_zero, cI_zero, cS_zero, cC_zero, cB_cons, cI_cons, cS_cons, cC_cons, cond_true, cond_false, List.length_cons, List.length_nil, beq_self_eq_true, Bool.and_true, Bool.true_and, lenC_encL, lenC_lst, deref_ref, emptyK_nil, bs_size, bs_toList]
      rw [decide_eq_true (by omega), cond_true, c_laws_szPick _ _ hb (by omega) (by omega)]
      simp only [callS_canon, callL_canon, Option.map_some, Option.bind_some, shape_one, shape_agg, shape_nil, cellsAt_0, cellsAt_1, cellsAt_2, cellsAt_3, cells_one, cells_agg, cB_zero, cI_zero, cS_zero, cC_zero, cB_cons, cI_cons, cS_cons, cC_cons, cond_true, cond_false, List.length_cons, List.length_nil, beq_self_eq_true, Bool.and_true, Bool.true_and, lenC_encL, lenC_lst, deref_ref, emptyK_nil, bs_size, bs_toList, condSz]
      rw [wrap_succ (by omega)]
      simp only [List.map_cons, List.sum_cons]
      simp only [List.length_cons] at hn
      by_cases g : (((MPick.wt x) : Nat) : Int) ≤ l
      · rw [if_pos g, szI_pos g, ih _ _ _ hd' (by omega) (by omega) (by omega), szI_add g]
      · rw [if_neg g, szI_over g]
  have hM := maxLen_eq
  have hxl := hx.1
  refine out_of (H := []) (run_laws_szPickS_of (xs.length + 1) ?_)
  simp only [laws_szPickS, lenC_encL, Option.bind_some]
  rw [wrap_small (by omega) (by omega)]
  by_cases g : (xs.length : Int) ≤ l
  · rw [decide_eq_false (by omega), cond_false]
    have := loop xs 0 (xs.length + 1 + 1) (l - xs.length) rfl (by omega) (by omega) (by omega) (xs.length + 1 + 1) (xs.length + 1 + 1)
    simp only [Int.natCast_zero] at this
    rw [this, szI_add g]
    rfl
  · rw [decide_eq_true (by omega), cond_true]
    have : szI (wtL MPick.wt xs) l = -1 := szI_over g
    rw [this]
theorem c_laws_toStringS (xs : List Str) (hx : bdL 1048576 (bdS 1048576) xs) : outL run_laws_toStringS [.one (encL 1 eStr xs)] = some [.one (encL 1 eStr xs)] := by
  have hxl : xs.length ≤ 1048576 := hx.1
  have hM := maxLen_eq
  have loop : ∀ (ys : List Str) (i n : Nat), xs.drop i = ys → ys.length < n → ∀ k m, laws_toStringS_l0 k m n (encL 1 eStr xs) (.vs 0 1 0 xs.length 0) i [Entry.mk 1 (filled eStr [Cell.str (bs [])] xs i) 0 false] = some ([.one (.vs 0 1 0 xs.length 0)], [Entry.mk 1 (xs.map eStr) 0 false]) := by
    intro ys
    induction ys with
    | nil =>
      intro i n hd hn k m
      obtain ⟨n, rfl⟩ : ∃ j, n = j + 1 := ⟨n - 1, by omega⟩
      have := drop_nil hd
      simp only [laws_toStringS_l0, lenC_encL, Option.bind_some]
      rw [decide_eq_false (by omega), cond_false]
      have : filled eStr [Cell.str (bs [])] xs i = xs.map eStr := by simp [filled, List.take_of_length_le this, show xs.length - i = 0 by omega]
      rw [this]
    | cons x ys ih =>
      intro i n hd hn k m
      obtain ⟨n, rfl⟩ : ∃ j, n = j + 1 := ⟨n - 1, by omega⟩
      obtain ⟨hlt, hg, hd'⟩ := drop_cons hd
      simp only [List.length_cons] at hn
      simp only [laws_toStringS_l0, lenC_encL, Option.bind_some, idxA_encL, hg, Option.map_some, deref_ref, eStr, cS_zero]
      rw [decide_eq_true (by omega), cond_true, idxA_vs _ _ _ _ _ hlt]
      have hs : hStore [Entry.mk 1 (filled eStr [Cell.str (bs [])] xs i) 0 false] (.ptr 0 1 i 0 0) (eStr x) = some [Entry.mk 1 (filled eStr [Cell.str (bs [])] xs (i + 1)) 0 false] := by
        rw [hStore_row (sz := 1) (filled_at eStr _ hlt) rfl rfl, filled_set eStr _ hg]
      simp only [eStr] at hs
      simp only [Option.bind_some, hs]
      rw [wrap_succ (by omega)]
      exact ih _ _ hd' (by omega) _ _
  refine outL_of (H := [Entry.mk 1 (xs.map eStr) 0 false]) (run_laws_toStringS_of (xs.length + 1) ?_) (reify_vs eStr xs 0 false)
  simp only [laws_toStringS, lenC_encL, Option.bind_some]
  rw [if_pos (by unfold bound; refine ⟨?_, ?_, ?_, ?_⟩ <;> omega)]
  have := loop xs 0 (xs.length + 1 + 1) rfl (by omega) (xs.length + 1 + 1) (xs.length + 1 + 1)
  rw [filled_zero] at this
  exact this
theorem c_laws_toVer (x : MVer) (hx : x.Bd 1048576) : outL run_laws_toVer [.agg [Cell.int x.A, Cell.int x.B, Cell.int x.C, encL 1 eStr x.Pre]] = some [.agg [Cell.int x.A, Cell.int x.B, Cell.int x.C, encL 1 eStr x.Pre]] := by
  obtain ⟨b0, b1, b2, b3⟩ := hx
  refine outL_canon (H := []) (run_laws_toVer_of 0 ?_)
  simp only [laws_toVer, c_laws_toStringS _ b3, callS_canon, callL_canon, Option.map_some, Option.bind_some, shape_one, shape_agg, shape_nil, cellsAt_0, cellsAt_1, cellsAt_2, cellsAt_3, cells_one, cells_agg, cB_zero, cI_zero, cS_zero, cC_zero, cB_cons, cI_cons, cS_cons, cC_cons, cond_true, cond_false, List.length_cons, List.length_nil, beq_self_eq_true, Bool.and_true, Bool.true_and, lenC_encL, lenC_lst, deref_ref, emptyK_nil, bs_size, bs_toList]
theorem c_laws_toPick (x : MPick) (hx : x.Bd 1048576) : outL run_laws_toPick [.agg [Cell.str (bs x.Name), Cell.int x.V.A, Cell.int x.V.B, Cell.int x.V.C, encL 1 eStr x.V.Pre]] = some [.agg [Cell.str (bs x.Name), Cell.int x.V.A, Cell.int x.V.B, Cell.int x.V.C, encL 1 eStr x.V.Pre]] := by
  obtain ⟨b0, b1⟩ := hx
  refine outL_canon (H := []) (run_laws_toPick_of 0 ?_)
  simp only [laws_toPick, c_laws_toVer _ b1, callS_canon, callL_canon, Option.map_some, Option.bind_some, shape_one, shape_agg, shape_nil, cellsAt_0, cellsAt_1, cellsAt_2, cellsAt_3, cells_one, cells_agg, cB_zero, cI_zero, cS_zero, cC_zero, cB_cons, cI_cons, cS_cons, cC_cons, cond_true, cond_false, List.length_cons, List.length_nil, beq_self_eq_true, Bool.and_true, Bool.true_and, lenC_encL, lenC_lst, deref_ref, emptyK_nil, bs_size, bs_toList]
theorem c_laws_toPickS (xs : List MPick) (hx : bdL 1048576 (MPick.Bd 1048576) xs) : outL run_laws_toPickS [.one (encL 5 MPick.enc xs)] = some [.one (encL 5 MPick.enc xs)] := by
  have hxl : xs.length ≤ 1048576 := hx.1
  have hM := maxLen_eq
  have loop : ∀ (ys : List MPick) (i n : Nat), xs.drop i = ys → ys.length < n → ∀ k m, laws_toPickS_l0 k m n (encL 5 MPick.enc xs) (.vs 0 5 0 xs.length 0) i [Entry.mk 5 (filled MPick.enc [Cell.str (bs []), Cell.int 0, Cell.int 0, Cell.int 0, .lst true 1 []] xs i) 0 false] = some ([.one (.vs 0 5 0 xs.length 0)], [Entry.mk 5 (xs.map MPick.enc) 0 false]) := by
    intro ys
    induction ys with
    | nil =>
      intro i n hd hn k m
      obtain ⟨n, rfl⟩ : ∃ j, n = j + 1 := ⟨n - 1, by omega⟩
      have := drop_nil hd
      simp only [laws_toPickS_l0, lenC_encL, Option.bind_some]
      rw [decide_eq_false (by omega), cond_false]
      have : filled MPick.enc [Cell.str (bs []), Cell.int 0, Cell.int 0, Cell.int 0, .lst true 1 []] xs i = xs.map MPick.enc := by simp [filled, List.take_of_length_le this, show xs.length - i = 0 by omega]
      rw [this]
    | cons x ys ih =>
      intro i n hd hn k m
      obtain ⟨n, rfl⟩ : ∃ j, n = j + 1 := ⟨n - 1, by omega⟩
      obtain ⟨hlt, hg, hd'⟩ := drop_cons hd
      simp only [List.length_cons] at hn
      have hb := hx.2 x (List.mem_of_getElem? hg)
      simp only [laws_toPickS_l0, idxA_encL, hg, MPick.enc, c_laws_toPick _ hb, callS_canon, callL_canon, Option.map_some, Option.bind_some, shape_one, shape_agg, shape_nil, cellsAt_0, cellsAt_1, cellsAt_2, cellsAt_3, cells_one, cells_agg, cB_zero, cI_zero, cS_zero, cC_zero, cB_cons, cI_cons, cS_cons, cC_cons, cond_true, cond_false, List.length_cons, List.length_nil, beq_self_eq_true, Bool.and_true, Bool.true_and, lenC_encL, lenC_lst, deref_ref, emptyK_nil, bs_size, bs_toList]
      rw [decide_eq_true (by omega), cond_true, idxA_vs _ _ _ _ _ hlt]
      have hs : hStore [Entry.mk 5 (filled MPick.enc [Cell.str (bs []), Cell.int 0, Cell.int 0, Cell.int 0, .lst true 1 []] xs i) 0 false] (.ptr 0 5 i 0 0) (MPick.enc x) = some [Entry.mk 5 (filled MPick.enc [Cell.str (bs []), Cell.int 0, Cell.int 0, Cell.int 0, .lst true 1 []] xs (i + 1)) 0 false] := by
        rw [hStore_row (sz := 5) (filled_at MPick.enc _ hlt) rfl rfl, filled_set MPick.enc _ hg]
      simp only [MPick.enc] at hs
      simp only [Option.bind_some, hs]
      rw [wrap_succ (by omega)]
      exact ih _ _ hd' (by omega) _ _
  refine outL_of (H := [Entry.mk 5 (xs.map MPick.enc) 0 false]) (run_laws_toPickS_of (xs.length + 1) ?_) (reify_vs MPick.enc xs 0 false)
  simp only [laws_toPickS, lenC_encL, Option.bind_some]
  rw [if_pos (by unfold bound; refine ⟨?_, ?_, ?_, ?_⟩ <;> omega)]
  have := loop xs 0 (xs.length + 1 + 1) rfl (by omega) (xs.length + 1 + 1) (xs.length + 1 + 1)
  rw [filled_zero] at this
  exact this
theorem c_laws_eqStringS (xs ys : List Str) (hx : bdL 1048576 (bdS 1048576) xs) (hy : bdL 1048576 (bdS 1048576) ys) : out run_laws_eqStringS [.one (encL 1 eStr xs), .one (encL 1 eStr ys)] = some [.one (Cell.bool (decide (xs = ys)))] := by
  have hxl : xs.length ≤ 1048576 := hx.1
  have hM := maxLen_eq
  have loop : xs.length = ys.length → ∀ (us vs : List Str) (i n : Nat), xs.drop i = us → ys.drop i = vs → us.length < n → ∀ k m, laws_eqStringS_l0 k m n (encL 1 eStr xs) (encL 1 eStr ys) i = some ([.one (Cell.bool (decide (us = vs)))], []) := by
    intro hlen us
    induction us with
    | nil =>
      intro vs i n hd he hn k m
      obtain ⟨n, rfl⟩ : ∃ j, n = j + 1 := ⟨n - 1, by omega⟩
      have := drop_nil hd
      have hv : vs = [] := by rw [← he]; exact List.drop_eq_nil_of_le (by omega)
      subst hv
      simp only [laws_eqStringS_l0, lenC_encL, Option.bind_some]
      rw [decide_eq_false (by omega)]
      simp
    | cons x us ih =>
      intro vs i n hd he hn k m
      obtain ⟨n, rfl⟩ : ∃ j, n = j + 1 := ⟨n - 1, by omega⟩
      obtain ⟨hlt, hgx, hd'⟩ := drop_cons hd
      cases vs with
      | nil => have := drop_nil he; omega
      | cons y vs =>
      obtain ⟨hlt', hgy, he'⟩ := drop_cons he
      simp only [List.length_cons] at hn
      simp only [laws_eqStringS_l0, idxA_encL, hgx, hgy, eStr, callS_canon, callL_canon, Option.map_some, Option.bind_some, shape_one, shape_agg, shape_nil, cellsAt_0, cellsAt_1, cellsAt_2, cellsAt_3, cells_one, cells_agg, cB_zero, cI_zero, cS_zero, cC_zero, cB_cons, cI_cons, cS_cons, cC_cons, cond_true, cond_false, List.length_cons, List.length_nil, beq_self_eq_true, Bool.and_true, Bool.true_and, lenC_encL, lenC_lst, deref_ref, emptyK_nil, bs_size, bs_toList]
      rw [decide_eq_true (by omega)]
      simp only [callS_canon, callL_canon, Option.map_some, Option.bind_some, shape_one, shape_agg, shape_nil, cellsAt_0, cellsAt_1, cellsAt_2, cellsAt_3, cells_one, cells_agg, cB_zero, cI_zero, cS_zero, cC_zero, cB_cons, cI_cons, cS_cons, cC_cons, cond_true, cond_false, List.length_cons, List.length_nil, beq_self_eq_true, Bool.and_true, Bool.true_and, lenC_encL, lenC_lst, deref_ref, emptyK_nil, bs_size, bs_toList]
      rw [wrap_succ (by omega), ih vs (i + 1) n hd' he' (by omega), condF]
      congr 5
      rw [Bool.eq_iff_iff]
      simp
  refine out_of (H := []) (run_laws_eqStringS_of (xs.length + 1) ?_)
  simp only [laws_eqStringS, lenC_encL, Option.bind_some]
  by_cases h : xs.length = ys.length
  · rw [show (((xs.length : Nat) : Int) != (ys.length : Int)) = false by simp [h], cond_false]
    exact loop h xs ys 0 _ rfl rfl (by omega) _ _
  · rw [show (((xs.length : Nat) : Int) != (ys.length : Int)) = true by simp only [bne_iff_ne, ne_eq]; omega, cond_true]
    have : xs ≠ ys := fun e => h (by rw [e])
    simp [this]
theorem c_laws_eqVer (x y : MVer) (hx : x.Bd 1048576) (hy : y.Bd 1048576) : out run_laws_eqVer [.agg [Cell.int x.A, Cell.int x.B, Cell.int x.C, encL 1 eStr x.Pre], .agg [Cell.int y.A, Cell.int y.B, Cell.int y.C, encL 1 eStr y.Pre]] = some [.one (Cell.bool (decide (x = y)))] := by
  obtain ⟨b0, b1, b2, b3⟩ := hx
  obtain ⟨d0, d1, d2, d3⟩ := hy
  refine out_of (H := []) (run_laws_eqVer_of 0 ?_)
  simp only [laws_eqVer, c_laws_eqStringS _ _ b3 d3, callS_canon, callL_canon, Option.map_some, Option.bind_some, shape_one, shape_agg, shape_nil, cellsAt_0, cellsAt_1, cellsAt_2, cellsAt_3, cells_one, cells_agg, cB_zero, cI_zero, cS_zero, cC_zero, cB_cons, cI_cons, cS_cons, cC_cons, cond_true, cond_false, List.length_cons, List.length_nil, beq_self_eq_true, Bool.and_true, Bool.true_and, lenC_encL, lenC_lst, deref_ref, emptyK_nil, bs_size, bs_toList, condF, condNe]
  congr 5
  rw [Bool.eq_iff_iff]
  cases x; cases y
  simp [MVer.mk.injEq]
theorem c_laws_eqPick (x y : MPick) (hx : x.Bd 1048576) (hy : y.Bd 1048576) : out run_laws_eqPick [.agg [Cell.str (bs x.Name), Cell.int x.V.A, Cell.int x.V.B, Cell.int x.V.C, encL 1 eStr x.V.Pre], .agg [Cell.str (bs y.Name), Cell.int y.V.A, Cell.int y.V.B, Cell.int y.V.C, encL 1 eStr y.V.Pre]] = some [.one (Cell.bool (decide (x = y)))] := by
  obtain ⟨b0, b1⟩ := hx
  obtain ⟨d0, d1⟩ := hy
  refine out_of (H := []) (run_laws_eqPick_of 0 ?_)
  simp only [laws_eqPick, c_laws_eqVer _ _ b1 d1, callS_canon, callL_canon, Option.map_some, Option.bind_some, shape_one, shape_agg, shape_nil, cellsAt_0, cellsAt_1, cellsAt_2, cellsAt_3, cells_one, cells_agg, cB_zero, cI_zero, cS_zero, cC_zero, cB_cons, cI_cons, cS_cons, cC_cons, cond_true, cond_false, List.length_cons, List.length_nil, beq_self_eq_true, Bool.and_true, Bool.true_and, lenC_encL, lenC_lst, deref_ref, emptyK_nil, bs_size, bs_toList, condF, condNe]
  congr 5
  rw [Bool.eq_iff_iff]
  cases x; cases y
  simp [MPick.mk.injEq]
theorem c_laws_eqPickS (xs ys : List MPick) (hx : bdL 1048576 (MPick.Bd 1048576) xs) (hy : bdL 1048576 (MPick.Bd 1048576) ys) : out run_laws_eqPickS [.one (encL 5 MPick.enc xs), .one (encL 5 MPick.enc ys)] = some [.one (Cell.bool (decide (xs = ys)))] := by
  have hxl : xs.length ≤ 1048576 := hx.1
  have hM := maxLen_eq
  have loop : xs.length = ys.length → ∀ (us vs : List MPick) (i n : Nat), xs.drop i = us → ys.drop i = vs → us.length < n → ∀ k m, laws_eqPickS_l0 k m n (encL 5 MPick.enc xs) (encL 5 MPick.enc ys) i = some ([.one (Cell.bool (decide (us = vs)))], []) := by
    intro hlen us
    induction us with
    | nil =>
      intro vs i n hd he hn k m
      obtain ⟨n, rfl⟩ : ∃ j, n = j + 1 := ⟨n - 1, by omega⟩
      have := drop_nil hd
      have hv : vs = [] := by rw [← he]; exact List.drop_eq_nil_of_le (by omega)
      subst hv
      simp only [laws_eqPickS_l0, lenC_encL, Option.bind_some]
      rw [decide_eq_false (by omega)]
      simp
    | cons x us ih =>
      intro vs i n hd he hn k m
      obtain ⟨n, rfl⟩ : ∃ j, n = j + 1 := ⟨n - 1, by omega⟩
      obtain ⟨hlt, hgx, hd'⟩ := drop_cons hd
      cases vs with
      | nil => have := drop_nil he; omega
      | cons y vs =>
      obtain ⟨hlt', hgy, he'⟩ := drop_cons he
      simp only [List.length_cons] at hn
      have hbx := hx.2 x (List.mem_of_getElem? hgx)
      have hby := hy.2 y (List.mem_of_getElem? hgy)
      simp only [laws_eqPickS_l0, idxA_encL, hgx, hgy, MPick.enc, c_laws_eqPick _ _ hbx hby, callS_canon, callL_canon, Option.map_some, Option.bind_some, shape_one, shape_agg, shape_nil, cellsAt_0, cellsAt_1, cellsAt_2, cellsAt_3, cells_one, cells_agg, cB_zero, cI_zero, cS_zero, cC_zero, cB_cons, cI_cons, cS_cons, cC_cons, cond_true, cond_false, List.length_cons, List.length_nil, beq_self_eq_true, Bool.and_true, Bool.true_and, lenC_encL, lenC_lst, deref_ref, emptyK_nil, bs_size, bs_toList]
      rw [decide_eq_true (by omega)]
      simp only [callS_canon, callL_canon, Option.map_some, Option.bind_some, shape_one, shape_agg, shape_nil, cellsAt_0, cellsAt_1, cellsAt_2, cellsAt_3, cells_one, cells_agg, cB_zero, cI_zero, cS_zero, cC_zero, cB_cons, cI_cons, cS_cons, cC_cons, cond_true, cond_false, List.length_cons, List.length_nil, beq_self_eq_true, Bool.and_true, Bool.true_and, lenC_encL, lenC_lst, deref_ref, emptyK_nil, bs_size, bs_toList]
      rw [wrap_succ (by omega), ih vs (i + 1) n hd' he' (by omega), condF]
      congr 5
      rw [Bool.eq_iff_iff]
      simp
  refine out_of (H := []) (run_laws_eqPickS_of (xs.length + 1) ?_)
  simp only [laws_eqPickS, lenC_encL, Option.bind_some]
  by_cases h : xs.length = ys.length
  · rw [show (((xs.length : Nat) : Int) != (ys.length : Int)) = false by simp [h], cond_false]
    exact loop h xs ys 0 _ rfl rfl (by omega) _ _
  · rw [show (((xs.length : Nat) : Int) != (ys.length : Int)) = true by simp only [bne_iff_ne, ne_eq]; omega, cond_true]
    have : xs ≠ ys := fun e => h (by rw [e])
    simp [this]
end Go.Ev
