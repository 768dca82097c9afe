/- What the laws' own functions come to: sizes, copies, comparisons. Conditions: none. -/
import Derived.Test.YtkpiaalieeacgaaEvMod
import Derived.Test.YtkpiaalieeacgaaSh0
set_option linter.unusedSimpArgs false
set_option linter.unusedVariables false
namespace Go.Ev
open Go
theorem c_laws_szByteS (xs : Str) (l : Int) (hx : bdS maxLen xs) (h0 : 0 ≤ l) (h1 : l ≤ 1099511627776) : out run_laws_szByteS [.one (bytesC xs), .one (Cell.int l)] = some [.one (Cell.int (szI (wtS xs) l))] := by
  have hM := maxLen_eq
  have hxl : xs.length ≤ maxLen := hx
  refine out_of (H := []) (run_laws_szByteS_of 0 ?_)
  simp only [laws_szByteS, lenC_encL, Option.bind_some]
  rw [wrap_small (by omega) (by omega)]
  by_cases g : (xs.length : Int) ≤ l
  · rw [decide_eq_false (by omega), cond_false, szI_pos (w := wtS xs) g]
    rfl
  · rw [decide_eq_true (by omega), cond_true, szI_neg (w := wtS xs) g]
theorem c_laws_szSlot (x : MSlot) (l : Int) (hx : x.Bd maxLen) (h0 : 0 ≤ l) (h1 : l ≤ 1099511627776) : out run_laws_szSlot [.agg [bytesC x.Key, bytesC x.B], .one (Cell.int l)] = some [.one (Cell.int (szI x.wt l))] := by
  obtain ⟨b0, b1⟩ := hx
  have hM := maxLen_eq
  refine out_of (H := []) (run_laws_szSlot_of 0 ?_)
  simp only [laws_szSlot, MSlot.wt, callS_canon, callL_canon, Option.map_some, Option.bind_some, shape_one, shape_agg, shape_nil, cellsAt_0, cellsAt_1, cellsAt_2, cellsAt_3, cells_one, cells_agg, cB_zero, cI_zero, cS_zero, cC_zero, cB_cons, cI_cons, cS_cons, cC_cons, cond_true, cond_false, List.length_cons, List.length_nil, beq_self_eq_true, Bool.and_true, Bool.true_and, lenC_encL, lenC_lst, deref_ref, emptyK_nil, bs_size, bs_toList]
  rw [c_laws_szByteS _ _ b0 (by omega) (by omega)]
  simp only [callS_canon, callL_canon, Option.map_some, Option.bind_some, shape_one, shape_agg, shape_nil, cellsAt_0, cellsAt_1, cellsAt_2, cellsAt_3, cells_one, cells_agg, cB_zero, cI_zero, cS_zero, cC_zero, cB_cons, cI_cons, cS_cons, cC_cons, cond_true, cond_false, List.length_cons, List.length_nil, beq_self_eq_true, Bool.and_true, Bool.true_and, lenC_encL, lenC_lst, deref_ref, emptyK_nil, bs_size, bs_toList, condSz]
  by_cases g0 : ((wtS x.Key : Nat) : Int) ≤ l
  · rw [if_pos g0, szI_pos g0]
    rw [c_laws_szByteS _ _ b1 (by omega) (by omega)]
    simp only [callS_canon, callL_canon, Option.map_some, Option.bind_some, shape_one, shape_agg, shape_nil, cellsAt_0, cellsAt_1, cellsAt_2, cellsAt_3, cells_one, cells_agg, cB_zero, cI_zero, cS_zero, cC_zero, cB_cons, cI_cons, cS_cons, cC_cons, cond_true, cond_false, List.length_cons, List.length_nil, beq_self_eq_true, Bool.and_true, Bool.true_and, lenC_encL, lenC_lst, deref_ref, emptyK_nil, bs_size, bs_toList, condSz]
    by_cases g1 : ((wtS x.B : Nat) : Int) ≤ l - ((wtS x.Key : Nat) : Int)
    · rw [if_pos g1, szI_pos g1]
      first | done | rw [szI_pos (by omega)]
      first | done | (congr 5 <;> omega)
    · rw [if_neg g1, szI_neg (by omega)]
  · rw [if_neg g0, szI_neg (by omega)]
theorem c_laws_szSlotS (xs : List MSlot) (l : Int) (hx : bdL maxLen (MSlot.Bd maxLen) xs) (h0 : 0 ≤ l) (h1 : l ≤ 1099511627776) : out run_laws_szSlotS [.one (encL 2 MSlot.enc xs), .one (Cell.int l)] = some [.one (Cell.int (szI (wtL MSlot.wt xs) l))] := by
  have loop : ∀ (ys : List MSlot) (i n : Nat) (l : Int), xs.drop i = ys → ys.length < n → 0 ≤ l → l ≤ 1099511627776 → ∀ k m, laws_szSlotS_l0 k m n (encL 2 MSlot.enc xs) l i = some ([.one (Cell.int (szI (ys.map MSlot.wt).sum l))], []) := by
    intro ys
    induction ys with
    | nil =>
      intro i n l hd hn h0 h1 k m
      obtain ⟨n, rfl⟩ : ∃ j, n = j + 1 := ⟨n - 1, by omega⟩
      have := drop_nil hd
      simp only [laws_szSlotS_l0, lenC_encL, Option.bind_some]
      rw [decide_eq_false (by omega)]
      simp only [List.map_nil, List.sum_nil]
      rw [szI_zero h0, cond_false]
    | cons x ys ih =>
      intro i n l hd hn h0 h1 k m
      obtain ⟨n, rfl⟩ : ∃ j, n = j + 1 := ⟨n - 1, by omega⟩
      obtain ⟨hlt, hg, hd'⟩ := drop_cons hd
      have hxl := hx.1
      have hM := maxLen_eq
      have hb := hx.2 x (List.mem_of_getElem? hg)
      simp only [laws_szSlotS_l0, idxA_encL, hg, MSlot.enc, callS_canon, callL_canon, Option.map_some, Option.bind_some, shape_one, shape_agg, shape_nil, cellsAt_0, cellsAt_1, cellsAt_2, cellsAt_3, cells_one, cells_agg, cB_zero, cI_zero, cS_zero, cC_zero, cB_cons, cI_cons, cS_cons, cC_cons, cond_true, cond_false, List.length_cons, List.length_nil, beq_self_eq_true, Bool.and_true, Bool.true_and, lenC_encL, lenC_lst, deref_ref, emptyK_nil, bs_size, bs_toList]
      rw [decide_eq_true (by omega), cond_true, c_laws_szSlot _ _ hb (by omega) (by omega)]
      simp only [callS_canon, callL_canon, Option.map_some, Option.bind_some, shape_one, shape_agg, shape_nil, cellsAt_0, cellsAt_1, cellsAt_2, cellsAt_3, cells_one, cells_agg, cB_zero, cI_zero, cS_zero, cC_zero, cB_cons, cI_cons, cS_cons, cC_cons, cond_true, cond_false, List.length_cons, List.length_nil, beq_self_eq_true, Bool.and_true, Bool.true_and, lenC_encL, lenC_lst, deref_ref, emptyK_nil, bs_size, bs_toList, condSz]
      rw [wrap_succ (by omega)]
      simp only [List.map_cons, List.sum_cons]
      simp only [List.length_cons] at hn
      by_cases g : (((MSlot.wt x) : Nat) : Int) ≤ l
      · rw [if_pos g, szI_pos g, ih _ _ _ hd' (by omega) (by omega) (by omega), szI_add g]
      · rw [if_neg g, szI_over g]
  have hM := maxLen_eq
  have hxl := hx.1
  refine out_of (H := []) (run_laws_szSlotS_of (xs.length + 1) ?_)
  simp only [laws_szSlotS, lenC_encL, Option.bind_some]
  rw [wrap_small (by omega) (by omega)]
  by_cases g : (xs.length : Int) ≤ l
  · rw [decide_eq_false (by omega), cond_false]
    have := loop xs 0 (xs.length + 1 + 1) (l - xs.length) rfl (by omega) (by omega) (by omega) (xs.length + 1 + 1) (xs.length + 1 + 1)
    simp only [Int.natCast_zero] at this
    rw [this, szI_add g]
    rfl
  · rw [decide_eq_true (by omega), cond_true]
    have : szI (wtL MSlot.wt xs) l = -1 := szI_over g
    rw [this]
theorem c_laws_toByteS (xs : Str) (hx : bdS 1048576 xs) : outL run_laws_toByteS [.one (bytesC xs)] = some [.one (bytesC xs)] := by
  have hxl : xs.length ≤ 1048576 := hx
  have hM := maxLen_eq
  have loop : ∀ (ys : Str) (i n : Nat), xs.drop i = ys → ys.length < n → ∀ k m, laws_toByteS_l0 k m n (bytesC xs) (.vs 0 1 0 xs.length 0) i [Entry.mk 1 (filled eByte [.sc (.int .u8 0)] xs i) 0 false] = some ([.one (.vs 0 1 0 xs.length 0)], [Entry.mk 1 (xs.map eByte) 0 false]) := by
    intro ys
    induction ys with
    | nil =>
      intro i n hd hn k m
      obtain ⟨n, rfl⟩ : ∃ j, n = j + 1 := ⟨n - 1, by omega⟩
      have := drop_nil hd
      simp only [laws_toByteS_l0, lenC_encL, Option.bind_some]
      rw [decide_eq_false (by omega), cond_false]
      have : filled eByte [.sc (.int .u8 0)] xs i = xs.map eByte := by simp [filled, List.take_of_length_le this, show xs.length - i = 0 by omega]
      rw [this]
    | cons x ys ih =>
      intro i n hd hn k m
      obtain ⟨n, rfl⟩ : ∃ j, n = j + 1 := ⟨n - 1, by omega⟩
      obtain ⟨hlt, hg, hd'⟩ := drop_cons hd
      simp only [List.length_cons] at hn
      simp only [laws_toByteS_l0, lenC_encL, Option.bind_some, idxA_encL, hg, Option.map_some, deref_ref, eByte, cI_zero]
      rw [decide_eq_true (by omega), cond_true, idxA_vs _ _ _ _ _ hlt]
      have hs : hStore [Entry.mk 1 (filled eByte [.sc (.int .u8 0)] xs i) 0 false] (.ptr 0 1 i 0 0) (eByte x) = some [Entry.mk 1 (filled eByte [.sc (.int .u8 0)] xs (i + 1)) 0 false] := by
        rw [hStore_row (sz := 1) (filled_at eByte _ hlt) rfl rfl, filled_set eByte _ hg]
      simp only [eByte] at hs
      simp only [Option.bind_some, hs]
      rw [wrap_succ (by omega)]
      exact ih _ _ hd' (by omega) _ _
  refine outL_of (H := [Entry.mk 1 (xs.map eByte) 0 false]) (run_laws_toByteS_of (xs.length + 1) ?_) (reify_vs eByte xs 0 false)
  simp only [laws_toByteS, lenC_encL, Option.bind_some]
  rw [if_pos (by unfold bound; refine ⟨?_, ?_, ?_, ?_⟩ <;> omega)]
  have := loop xs 0 (xs.length + 1 + 1) rfl (by omega) (xs.length + 1 + 1) (xs.length + 1 + 1)
  rw [filled_zero] at this
  exact this
theorem c_laws_toSlot (x : MSlot) (hx : x.Bd 1048576) : outL run_laws_toSlot [.agg [bytesC x.Key, bytesC x.B]] = some [.agg [bytesC x.Key, bytesC x.B]] := by
  obtain ⟨b0, b1⟩ := hx
  refine outL_canon (H := []) (run_laws_toSlot_of 0 ?_)
  simp only [laws_toSlot, c_laws_toByteS _ b0, c_laws_toByteS _ b1, callS_canon, callL_canon, Option.map_some, Option.bind_some, shape_one, shape_agg, shape_nil, cellsAt_0, cellsAt_1, cellsAt_2, cellsAt_3, cells_one, cells_agg, cB_zero, cI_zero, cS_zero, cC_zero, cB_cons, cI_cons, cS_cons, cC_cons, cond_true, cond_false, List.length_cons, List.length_nil, beq_self_eq_true, Bool.and_true, Bool.true_and, lenC_encL, lenC_lst, deref_ref, emptyK_nil, bs_size, bs_toList]
theorem c_laws_toSlotS (xs : List MSlot) (hx : bdL 1048576 (MSlot.Bd 1048576) xs) : outL run_laws_toSlotS [.one (encL 2 MSlot.enc xs)] = some [.one (encL 2 MSlot.enc xs)] := by
  have hxl : xs.length ≤ 1048576 := hx.1
  have hM := maxLen_eq
  have loop : ∀ (ys : List MSlot) (i n : Nat), xs.drop i = ys → ys.length < n → ∀ k m, laws_toSlotS_l0 k m n (encL 2 MSlot.enc xs) (.vs 0 2 0 xs.length 0) i [Entry.mk 2 (filled MSlot.enc [.lst true 1 [], .lst true 1 []] xs i) 0 false] = some ([.one (.vs 0 2 0 xs.length 0)], [Entry.mk 2 (xs.map MSlot.enc) 0 false]) := by
    intro ys
    induction ys with
    | nil =>
      intro i n hd hn k m
      obtain ⟨n, rfl⟩ : ∃ j, n = j + 1 := ⟨n - 1, by omega⟩
      have := drop_nil hd
      simp only [laws_toSlotS_l0, lenC_encL, Option.bind_some]
      rw [decide_eq_false (by omega), cond_false]
      have : filled MSlot.enc [.lst true 1 [], .lst true 1 []] xs i = xs.map MSlot.enc := by simp [filled, List.take_of_length_le this, show xs.length - i = 0 by omega]
      rw [this]
    | cons x ys ih =>
      intro i n hd hn k m
      obtain ⟨n, rfl⟩ : ∃ j, n = j + 1 := ⟨n - 1, by omega⟩
      obtain ⟨hlt, hg, hd'⟩ := drop_cons hd
      simp only [List.length_cons] at hn
      have hb := hx.2 x (List.mem_of_getElem? hg)
      simp only [laws_toSlotS_l0, idxA_encL, hg, MSlot.enc, c_laws_toSlot _ hb, callS_canon, callL_canon, Option.map_some, Option.bind_some, shape_one, shape_agg, shape_nil, cellsAt_0, cellsAt_1, cellsAt_2, cellsAt_3, cells_one, cells_agg, cB_zero, cI_zero, cS_zero, cC_zero, cB_cons, cI_cons, cS_cons, cC_cons, cond_true, cond_false, List.length_cons, List.length_nil, beq_self_eq_true, Bool.and_true, Bool.true_and, lenC_encL, lenC_lst, deref_ref, emptyK_nil, bs_size, bs_toList]
      rw [decide_eq_true (by omega), cond_true, idxA_vs _ _ _ _ _ hlt]
      have hs : hStore [Entry.mk 2 (filled MSlot.enc [.lst true 1 [], .lst true 1 []] xs i) 0 false] (.ptr 0 2 i 0 0) (MSlot.enc x) = some [Entry.mk 2 (filled MSlot.enc [.lst true 1 [], .lst true 1 []] xs (i + 1)) 0 false] := by
        rw [hStore_row (sz := 2) (filled_at MSlot.enc _ hlt) rfl rfl, filled_set MSlot.enc _ hg]
      simp only [MSlot.enc] at hs
      simp only [Option.bind_some, hs]
      rw [wrap_succ (by omega)]
      exact ih _ _ hd' (by omega) _ _
  refine outL_of (H := [Entry.mk 2 (xs.map MSlot.enc) 0 false]) (run_laws_toSlotS_of (xs.length + 1) ?_) (reify_vs MSlot.enc xs 0 false)
  simp only [laws_toSlotS, lenC_encL, Option.bind_some]
  rw [if_pos (by unfold bound; refine ⟨?_, ?_, ?_, ?_⟩ <;> omega)]
  have := loop xs 0 (xs.length + 1 + 1) rfl (by omega) (xs.length + 1 + 1) (xs.length + 1 + 1)
  rw [filled_zero] at this
  exact this
theorem c_laws_eqByteS (xs ys : Str) (hx : bdS 1048576 xs) (hy : bdS 1048576 ys) : out run_laws_eqByteS [.one (bytesC xs), .one (bytesC ys)] = some [.one (Cell.bool (decide (xs = ys)))] := by
  have hxl : xs.length ≤ 1048576 := hx
  have hM := maxLen_eq
  have loop : xs.length = ys.length → ∀ (us vs : Str) (i n : Nat), xs.drop i = us → ys.drop i = vs → us.length < n → ∀ k m, laws_eqByteS_l0 k m n (bytesC xs) (bytesC ys) i = some ([.one (Cell.bool (decide (us = vs)))], []) := by
    intro hlen us
    induction us with
    | nil =>
      intro vs i n hd he hn k m
      obtain ⟨n, rfl⟩ : ∃ j, n = j + 1 := ⟨n - 1, by omega⟩
      have := drop_nil hd
      have hv : vs = [] := by rw [← he]; exact List.drop_eq_nil_of_le (by omega)
      subst hv
      simp only [laws_eqByteS_l0, lenC_encL, Option.bind_some]
      rw [decide_eq_false (by omega)]
      simp
    | cons x us ih =>
      intro vs i n hd he hn k m
      obtain ⟨n, rfl⟩ : ∃ j, n = j + 1 := ⟨n - 1, by omega⟩
      obtain ⟨hlt, hgx, hd'⟩ := drop_cons hd
      cases vs with
      | nil => have := drop_nil he; omega
      | cons y vs =>
      obtain ⟨hlt', hgy, he'⟩ := drop_cons he
      simp only [List.length_cons] at hn
      simp only [laws_eqByteS_l0, idxA_encL, hgx, hgy, eByte, callS_canon, callL_canon, Option.map_some, Option.bind_some, shape_one, shape_agg, shape_nil, cellsAt_0, cellsAt_1, cellsAt_2, cellsAt_3, cells_one, cells_agg, cB_zero, cI_zero, cS_zero, cC_zero, cB_cons, cI_cons, cS_cons, cC_cons, cond_true, cond_false, List.length_cons, List.length_nil, beq_self_eq_true, Bool.and_true, Bool.true_and, lenC_encL, lenC_lst, deref_ref, emptyK_nil, bs_size, bs_toList]
      rw [decide_eq_true (by omega)]
      simp only [callS_canon, callL_canon, Option.map_some, Option.bind_some, shape_one, shape_agg, shape_nil, cellsAt_0, cellsAt_1, cellsAt_2, cellsAt_3, cells_one, cells_agg, cB_zero, cI_zero, cS_zero, cC_zero, cB_cons, cI_cons, cS_cons, cC_cons, cond_true, cond_false, List.length_cons, List.length_nil, beq_self_eq_true, Bool.and_true, Bool.true_and, lenC_encL, lenC_lst, deref_ref, emptyK_nil, bs_size, bs_toList]
      rw [wrap_succ (by omega), ih vs (i + 1) n hd' he' (by omega), condNe]
      congr 5
      rw [Bool.eq_iff_iff]
      simp only [Bool.and_eq_true, beq_iff_eq, decide_eq_true_eq, List.cons.injEq]
      have : ((x.toNat : Int) = (y.toNat : Int)) ↔ x = y := ⟨fun h => UInt8.toNat_inj.1 (by omega), fun h => by rw [h]⟩
      rw [this]
  refine out_of (H := []) (run_laws_eqByteS_of (xs.length + 1) ?_)
  simp only [laws_eqByteS, lenC_encL, Option.bind_some]
  by_cases h : xs.length = ys.length
  · rw [show (((xs.length : Nat) : Int) != (ys.length : Int)) = false by simp [h], cond_false]
    exact loop h xs ys 0 _ rfl rfl (by omega) _ _
  · rw [show (((xs.length : Nat) : Int) != (ys.length : Int)) = true by simp only [bne_iff_ne, ne_eq]; omega, cond_true]
    have : xs ≠ ys := fun e => h (by rw [e])
    simp [this]
theorem c_laws_eqSlot (x y : MSlot) (hx : x.Bd 1048576) (hy : y.Bd 1048576) : out run_laws_eqSlot [.agg [bytesC x.Key, bytesC x.B], .agg [bytesC y.Key, bytesC y.B]] = some [.one (Cell.bool (decide (x = y)))] := by
  obtain ⟨b0, b1⟩ := hx
  obtain ⟨d0, d1⟩ := hy
  refine out_of (H := []) (run_laws_eqSlot_of 0 ?_)
  simp only [laws_eqSlot, c_laws_eqByteS _ _ b0 d0, c_laws_eqByteS _ _ b1 d1, callS_canon, callL_canon, Option.map_some, Option.bind_some, shape_one, shape_agg, shape_nil, cellsAt_0, cellsAt_1, cellsAt_2, cellsAt_3, cells_one, cells_agg, cB_zero, cI_zero, cS_zero, cC_zero, cB_cons, cI_cons, cS_cons, cC_cons, cond_true, cond_false, List.length_cons, List.length_nil, beq_self_eq_true, Bool.and_true, Bool.true_and, lenC_encL, lenC_lst, deref_ref, emptyK_nil, bs_size, bs_toList, condF, condNe]
  congr 5
  rw [Bool.eq_iff_iff]
  cases x; cases y
  simp [MSlot.mk.injEq]
theorem c_laws_eqSlotS (xs ys : List MSlot) (hx : bdL 1048576 (MSlot.Bd 1048576) xs) (hy : bdL 1048576 (MSlot.Bd 1048576) ys) : out run_laws_eqSlotS [.one (encL 2 MSlot.enc xs), .one (encL 2 MSlot.enc ys)] = some [.one (Cell.bool (decide (xs = ys)))] := by
  have hxl : xs.length ≤ 1048576 := hx.1
  have hM := maxLen_eq
  have loop : xs.length = ys.length → ∀ (us vs : List MSlot) (i n : Nat), xs.drop i = us → ys.drop i = vs → us.length < n → ∀ k m, laws_eqSlotS_l0 k m n (encL 2 MSlot.enc xs) (encL 2 MSlot.enc ys) i = some ([.one (Cell.bool (decide (us = vs)))], []) := by
    intro hlen us
    induction us with
    | nil =>
      intro vs i n hd he hn k m
      obtain ⟨n, rfl⟩ : ∃ j, n = j + 1 := ⟨n - 1, by omega⟩
      have := drop_nil hd
      have hv : vs = [] := by rw [← he]; exact List.drop_eq_nil_of_le (by omega)
      subst hv
      simp only [laws_eqSlotS_l0, lenC_encL, Option.bind_some]
      rw [decide_eq_false (by omega)]
      simp
    | cons x us ih =>
      intro vs i n hd he hn k m
      obtain ⟨n, rfl⟩ : ∃ j, n = j + 1 := ⟨n - 1, by omega⟩
      obtain ⟨hlt, hgx, hd'⟩ := drop_cons hd
      cases vs with
      | nil => have := drop_nil he; omega
      | cons y vs =>
      obtain ⟨hlt', hgy, he'⟩ := drop_cons he
      simp only [List.length_cons] at hn
      have hbx := hx.2 x (List.mem_of_getElem? hgx)
      have hby := hy.2 y (List.mem_of_getElem? hgy)
      simp only [laws_eqSlotS_l0, idxA_encL, hgx, hgy, MSlot.enc, c_laws_eqSlot _ _ hbx hby, callS_canon, callL_canon, Option.map_some, Option.bind_some, shape_one, shape_agg, shape_nil, cellsAt_0, cellsAt_1, cellsAt_2, cellsAt_3, cells_one, cells_agg, cB_zero, cI_zero, cS_zero, cC_zero, cB_cons, cI_cons, cS_cons, cC_cons, cond_true, cond_false, List.length_cons, List.length_nil, beq_self_eq_true, Bool.and_true, Bool.true_and, lenC_encL, lenC_lst, deref_ref, emptyK_nil, bs_size, bs_toList]
      rw [decide_eq_true (by omega)]
      simp only [callS_canon, callL_canon, Option.map_some, Option.bind_some, shape_one, shape_agg, shape_nil, cellsAt_0, cellsAt_1, cellsAt_2, cellsAt_3, cells_one, cells_agg, cB_zero, cI_zero, cS_zero, cC_zero, cB_cons, cI_cons, cS_cons, cC_cons, cond_true, cond_false, List.length_cons, List.length_nil, beq_self_eq_true, Bool.and_true, Bool.true_and, lenC_encL, lenC_lst, deref_ref, emptyK_nil, bs_size, bs_toList]
      rw [wrap_succ (by omega), ih vs (i + 1) n hd' he' (by omega), condF]
      congr 5
      rw [Bool.eq_iff_iff]
      simp
  refine out_of (H := []) (run_laws_eqSlotS_of (xs.length + 1) ?_)
  simp only [laws_eqSlotS, lenC_encL, Option.bind_some]
  by_cases h : xs.length = ys.length
  · rw [show (((xs.length : Nat) : Int) != (ys.length : Int)) = false by simp [h], cond_false]
    exact loop h xs ys 0 _ rfl rfl (by omega) _ _
  · rw [show (((xs.length : Nat) : Int) != (ys.length : Int)) = true by simp only [bne_iff_ne, ne_eq]; omega, cond_true]
    have : xs ≠ ys := fun e => h (by rw [e])
    simp [this]
end Go.Ev
