/- What the laws' own functions come to: sizes, copies, comparisons. Conditions: none. -/
import Derived.Test.YtohfdpklicamkaaEvMod
import Derived.Test.YtohfdpklicamkaaSh2
set_option linter.unusedSimpArgs false
set_option linter.unusedVariables false
namespace Go.Ev
open Go
theorem c_laws_eqStringS (xs ys : List Str) (hx : bdL 1048576 (bdS 1048576) xs) (hy : bdL 1048576 (bdS 1048576) ys) : out run_laws_eqStringS [.one (encL 1 eStr xs), .one (encL 1 eStr ys)] = some [.one (Cell.bool (decide (xs = ys)))] := by
  have hxl : xs.length ≤ 1048576 := hx.1
  have hM := maxLen_eq
  have loop : xs.length = ys.length → ∀ (us vs : List Str) (i n : Nat), xs.drop i = us → ys.drop i = vs → us.length < n → ∀ k m, laws_eqStringS_l0 k m n (encL 1 eStr xs) (encL 1 eStr ys) i = some ([.one (Cell.bool (decide (us = vs)))], []) := by
    intro hlen us
    induction us with
    | nil =>
      intro vs i n hd he hn k m
      obtain ⟨n, rfl⟩ : ∃ j, n = j + 1 := ⟨n - 1, by omega⟩
      have := drop_nil hd
      have hv : vs = [] := by rw [← he]; exact List.drop_eq_nil_of_le (by omega)
      subst hv
      simp only [laws_eqStringS_l0, lenC_encL, Option.bind_some]
      rw [decide_eq_false (by omega)]
      simp
    | cons x us ih =>
      intro vs i n hd he hn k m
      obtain ⟨n, rfl⟩ : ∃ j, n = j + 1 := ⟨n - 1, by omega⟩
      obtain ⟨hlt, hgx, hd'⟩ := drop_cons hd
      cases vs with
      | nil => have := drop_nil he; omega
      | cons y vs =>
      obtain ⟨hlt', hgy, he'⟩ := drop_cons he
      simp only [List.length_cons] at hn
      simp only [laws_eqStringS_l0, idxA_encL, hgx, hgy, eStr, callS_canon, callL_canon, Option.map_some, Option.bind_some, shape_one, shape_agg, shape_nil, cellsAt_0, cellsAt_1, cellsAt_2, cellsAt_3, cells_one, cells_agg, cB_zero, cI_zero, cS_zero, cC_zero, cB_cons, cI_cons, cS_cons, cC_cons, cond_true, cond_false, List.length_cons, List.length_nil, beq_self_eq_true, Bool.and_true, Bool.true_and, lenC_encL, lenC_lst, deref_ref, emptyK_nil, bs_size, bs_toList]
      rw [decide_eq_true (by omega)]
      simp only [callS_canon, callL_canon, Option.map_some, Option.bind_some, shape_one, shape_agg, shape_nil, cellsAt_0, cellsAt_1, cellsAt_2, cellsAt_3, cells_one, cells_agg, cB_zero, cI_zero, cS_zero, cC_zero, cB_cons, cI_cons, cS_cons, cC_cons, cond_true, cond_false, List.length_cons, List.length_nil, beq_self_eq_true, Bool.and_true, Bool.true_and, lenC_encL, lenC_lst, deref_ref, emptyK_nil, bs_size, bs_toList]
      rw [wrap_succ (by omega), ih vs (i + 1) n hd' he' (by omega), condF]
      congr 5
      rw [Bool.eq_iff_iff]
      simp
  refine out_of (H := []) (run_laws_eqStringS_of (xs.length + 1) ?_)
  simp only [laws_eqStringS, lenC_encL, Option.bind_some]
  by_cases h : xs.length = ys.length
  · rw [show (((xs.length : Nat) : Int) != (ys.length : Int)) = false by simp [h], cond_false]
    exact loop h xs ys 0 _ rfl rfl (by omega) _ _
  · rw [show (((xs.length : Nat) : Int) != (ys.length : Int)) = true by simp only [bne_iff_ne, ne_eq]; omega, cond_true]
    have : xs ≠ ys := fun e => h (by rw [e])
    simp [this]
theorem c_laws_markText (k : Nat) (hk : k ≤ markMax) : out run_laws_markText [.one (Cell.int (k : Int))] = some [.one (Cell.str (bs (markB k)))] := by
  refine out_of (H := []) (run_laws_markText_of k ?_)
  by_cases h : k = 0
  · subst h
    simp [laws_markText, markB]
  · simp only [laws_markText]
    rw [decide_eq_false (by omega), cond_false, markB, if_neg h]
    refine dig_loop (fun n i s => laws_markText_l0 (k + 1) (k + 1) n i s) (fun n s => ?_) (fun n i s hi => ?_) (k + 1) k k [] (by omega) (by omega) (by simpa using hk)
    · simp [laws_markText_l0]
    · simp only [laws_markText_l0]
      rw [decide_eq_true (by omega), cond_true]
theorem k_laws_markStringS {H : List Entry} {w : Bool} {n : Nat} {ids : List Nat} {c : Cell} (xs : List Str) (k : Nat) (hx : bdL maxLen (bdS maxLen) xs) (h : Rep H w true n ids c (trL 1 trStr xs)) (hn : ids.Nodup) (hk : k + cntL one1 xs ≤ markMax) :
    ∃ H', run_laws_markStringS [.one c, .one (Cell.int (k : Int))] H = some ([.one (Cell.int ((k + cntL one1 xs : Nat) : Int))], H') ∧ Upd ids H H' ∧ Rep H' w true n ids c (trL 1 trStr (mkL mkStr one1 xs k)) := by
  cases n with
  | zero => exact h.elim
  | succ n =>
  have hM := maxLen_eq
  have hlen := h.lenC
  rw [List.length_map] at hlen
  have hxl : xs.length ≤ maxLen := hx.1
  obtain ⟨H', e1, u, r⟩ := mark_loop (sz := 1) (c := c) trStr mkStr one1 xs (fun m k i H => laws_markStringS_l0 (xs.length + 1 + 1) (xs.length + 1 + 1) m c k i H) (by
    intro m i k x H trs hi hm hr hl hk h
    have h0 : Rep H w true (n + 1) ids c (.list 1 (trs.set i (trStr x))) := by rw [set_same hr]; exact h
    have hi' : i < trs.length := by omega
    have hk0 := hk
    simp only [one1] at hk
    obtain ⟨id0, p0, q0, row0, a0, d0, st0, sb0⟩ := h0.idxR hn hi'
    obtain ⟨H0, s0, u0, h1⟩ := st0 0 _ (.string (bs (markB k))) rfl
    have y0 : IntKind.i64.wrap (((k : Nat) : Int) + 1) = ((k + 1 : Nat) : Int) := wrapK (by omega)
    have ek : k + one1 x = (k + 1) := rfl
    refine ⟨H0, ?_, u0, h1⟩
    rw [ek]
    simp only [laws_markStringS_l0, hlen, Option.bind_some]
    rw [decide_eq_true (by omega), cond_true]
    simp only [a0, s0, c_laws_markText k (by omega), y0, fldA_ptr, Nat.zero_add, Nat.reduceAdd, wrap_u8, callS_canon, callL_canon, Option.map_some, Option.bind_some, shape_one, shape_agg, shape_nil, cellsAt_0, cellsAt_1, cellsAt_2, cellsAt_3, cells_one, cells_agg, cB_zero, cI_zero, cS_zero, cC_zero, cB_cons, cI_cons, cS_cons, cC_cons, cond_true, cond_false, List.length_cons, List.length_nil, beq_self_eq_true, Bool.and_true, Bool.true_and, lenC_encL, lenC_lst, deref_ref, emptyK_nil, bs_size, bs_toList]
    rw [wrap_succ (by omega)]) (by
    intro m k H
    simp only [laws_markStringS_l0, hlen, Option.bind_some]
    rw [decide_eq_false (by omega), cond_false]) (xs.length + 1 + 1) k H (by omega) hk h
  exact ⟨H', run_laws_markStringS_of (xs.length + 1) (by simp only [laws_markStringS]; exact e1), u, r⟩
theorem e_laws_heldStringS (xs : List Str) (k : Nat) (hx : bdL maxLen (bdS maxLen) xs) (hk : k + cntL one1 xs ≤ markMax) : out run_laws_heldStringS [.one (encL 1 eStr (mkL mkStr one1 xs k)), .one (Cell.int (k : Int))] = some [.one (Cell.int ((k + cntL one1 xs : Nat) : Int))] := by
  have hM := maxLen_eq
  have hyl : (mkL mkStr one1 xs k).length ≤ maxLen := by rw [mkL_length]; exact hx.1
  have loop : ∀ (ys : List Str) (hyl : ys.length ≤ maxLen) (r : List Str) (i k n : Nat), ys.drop i = mkL mkStr one1 r k → (∀ y ∈ r, True) → r.length < n → k + cntL one1 r ≤ markMax → ∀ K m, laws_heldStringS_l0 K m n (encL 1 eStr ys) k i = some ([.one (Cell.int ((k + cntL one1 r : Nat) : Int))], []) := by
    intro ys hyl r
    induction r with
    | nil =>
      intro i k n hd hx hn hk K m
      obtain ⟨n, rfl⟩ : ∃ j, n = j + 1 := ⟨n - 1, by omega⟩
      have := drop_nil hd
      simp only [laws_heldStringS_l0, lenC_encL, Option.bind_some]
      rw [decide_eq_false (by omega), cond_false, cntL_nil, Nat.add_zero]
    | cons x r ih =>
      intro i k n hd hx hn hk K m
      obtain ⟨n, rfl⟩ : ∃ j, n = j + 1 := ⟨n - 1, by omega⟩
      obtain ⟨hlt, hg, hd'⟩ := drop_cons hd
      simp only [List.length_cons] at hn
      rw [cntL_cons, ← Nat.add_assoc] at hk ⊢
      have hk0 := hk
      have ek : k + one1 x = (k + 1) := rfl
      rw [ek] at hk hd' ⊢
      have y0 : IntKind.i64.wrap (((k : Nat) : Int) + 1) = ((k + 1 : Nat) : Int) := wrapK (by omega)
      simp only [laws_heldStringS_l0, lenC_encL, Option.bind_some, idxA_encL, hg, eStr, mkStr, wrap_u8, bne_self_eq_false, Bool.not_true, fldA_ref, Nat.zero_add, Nat.reduceAdd, c_laws_markText k (by omega), y0, callS_canon, callL_canon, Option.map_some, Option.bind_some, shape_one, shape_agg, shape_nil, cellsAt_0, cellsAt_1, cellsAt_2, cellsAt_3, cells_one, cells_agg, cB_zero, cI_zero, cS_zero, cC_zero, cB_cons, cI_cons, cS_cons, cC_cons, cond_true, cond_false, List.length_cons, List.length_nil, beq_self_eq_true, Bool.and_true, Bool.true_and, lenC_encL, lenC_lst, deref_ref, emptyK_nil, bs_size, bs_toList]
      rw [decide_eq_true (by omega), cond_true, wrap_succ (by omega)]
      exact ih _ _ _ hd' (fun y hy => hx y (List.mem_cons_of_mem _ hy)) (by omega) (by omega) _ _
  refine out_of (H := []) (run_laws_heldStringS_of (xs.length + 1) ?_)
  simp only [laws_heldStringS]
  have := loop _ hyl xs 0 k (xs.length + 1 + 1) rfl (fun _ _ => trivial) (by omega) hk (xs.length + 1 + 1) (xs.length + 1 + 1)
  simp only [Int.natCast_zero] at this
  exact this
theorem c_laws_szStringS (xs : List Str) (l : Int) (hx : bdL maxLen (bdS maxLen) xs) (h0 : 0 ≤ l) (h1 : l ≤ 1099511627776) : out run_laws_szStringS [.one (encL 1 eStr xs), .one (Cell.int l)] = some [.one (Cell.int (szI (wtL wtS xs) l))] := by
  have loop : ∀ (ys : List Str) (i n : Nat) (l : Int), xs.drop i = ys → ys.length < n → 0 ≤ l → l ≤ 1099511627776 → ∀ k m, laws_szStringS_l0 k m n (encL 1 eStr xs) l i = some ([.one (Cell.int (szI (ys.map wtS).sum l))], []) := by
    intro ys
    induction ys with
    | nil =>
      intro i n l hd hn h0 h1 k m
      obtain ⟨n, rfl⟩ : ∃ j, n = j + 1 := ⟨n - 1, by omega⟩
      have := drop_nil hd
      simp only [laws_szStringS_l0, lenC_encL, Option.bind_some]
      rw [decide_eq_false (by omega)]
      simp only [List.map_nil, List.sum_nil]
      rw [szI_zero h0, cond_false]
    | cons x ys ih =>
      intro i n l hd hn h0 h1 k m
      obtain ⟨n, rfl⟩ : ∃ j, n = j + 1 := ⟨n - 1, by omega⟩
      obtain ⟨hlt, hg, hd'⟩ := drop_cons hd
      have hxl := hx.1
      have hM := maxLen_eq
      have hb : x.length ≤ maxLen := hx.2 x (List.mem_of_getElem? hg)
      simp only [laws_szStringS_l0, lenC_encL, Option.bind_some, idxA_encL, hg, Option.map_some, deref_ref, eStr, cS_zero, bs_size]
      rw [decide_eq_true (by omega), cond_true, wrap_succ (by omega), wrap_small (by omega) (by omega)]
      simp only [List.map_cons, List.sum_cons, wtS]
      simp only [List.length_cons] at hn
      by_cases g : (x.length : Int) ≤ l
      · rw [decide_eq_false (by omega), cond_false, ih _ _ _ hd' (by omega) (by omega) (by omega), szI_add g]
      · rw [decide_eq_true (by omega), cond_true, szI_over g]
  have hM := maxLen_eq
  have hxl := hx.1
  refine out_of (H := []) (run_laws_szStringS_of (xs.length + 1) ?_)
  simp only [laws_szStringS, lenC_encL, Option.bind_some]
  rw [wrap_small (by omega) (by omega)]
  by_cases g : (xs.length : Int) ≤ l
  · rw [decide_eq_false (by omega), cond_false]
    have := loop xs 0 (xs.length + 1 + 1) (l - xs.length) rfl (by omega) (by omega) (by omega) (xs.length + 1 + 1) (xs.length + 1 + 1)
    simp only [Int.natCast_zero] at this
    rw [this, szI_add g]
    rfl
  · rw [decide_eq_true (by omega), cond_true]
    have : szI (wtL wtS xs) l = -1 := szI_over g
    rw [this]
theorem c_laws_szNeed (x : MNeed) (l : Int) (hx : x.Bd maxLen) (h0 : 0 ≤ l) (h1 : l ≤ 1099511627776) : out run_laws_szNeed [.agg [Cell.str (bs x.Name), Cell.str (bs x.Range)], .one (Cell.int l)] = some [.one (Cell.int (szI x.wt l))] := by
  obtain ⟨b0, b1⟩ := hx
  have hM := maxLen_eq
  have k0 : x.Name.length ≤ maxLen := b0
  have q0 : wtS x.Name = x.Name.length := rfl
  have k1 : x.Range.length ≤ maxLen := b1
  have q1 : wtS x.Range = x.Range.length := rfl
  refine out_of (H := []) (run_laws_szNeed_of 0 ?_)
  simp only [laws_szNeed, MNeed.wt, callS_canon, callL_canon, Option.map_some, Option.bind_some, shape_one, shape_agg, shape_nil, cellsAt_0, cellsAt_1, cellsAt_2, cellsAt_3, cells_one, cells_agg, cB_zero, cI_zero, cS_zero, cC_zero, cB_cons, cI_cons, cS_cons, cC_cons, cond_true, cond_false, List.length_cons, List.length_nil, beq_self_eq_true, Bool.and_true, Bool.true_and, lenC_encL, lenC_lst, deref_ref, emptyK_nil, bs_size, bs_toList]
  rw [wrap_small (by omega) (by omega)]
  by_cases g0 : (x.Name.length : Int) ≤ l
  · rw [decide_eq_false (by omega), cond_false]
    rw [wrap_small (by omega) (by omega)]
    by_cases g1 : (x.Range.length : Int) ≤ l - (x.Name.length : Int)
    · rw [decide_eq_false (by omega), cond_false]
      first | done | rw [szI_pos (by omega)]
      first | done | (congr 5 <;> omega)
    · rw [decide_eq_true (by omega), cond_true, szI_neg (by omega)]
  · rw [decide_eq_true (by omega), cond_true, szI_neg (by omega)]
theorem c_laws_szNeedS (xs : List MNeed) (l : Int) (hx : bdL maxLen (MNeed.Bd maxLen) xs) (h0 : 0 ≤ l) (h1 : l ≤ 1099511627776) : out run_laws_szNeedS [.one (encL 2 MNeed.enc xs), .one (Cell.int l)] = some [.one (Cell.int (szI (wtL MNeed.wt xs) l))] := by
  have loop : ∀ (ys : List MNeed) (i n : Nat) (l : Int), xs.drop i = ys → ys.length < n → 0 ≤ l → l ≤ 1099511627776 → ∀ k m, laws_szNeedS_l0 k m n (encL 2 MNeed.enc xs) l i = some ([.one (Cell.int (szI (ys.map MNeed.wt).sum l))], []) := by
    intro ys
    induction ys with
    | nil =>
      intro i n l hd hn h0 h1 k m
      obtain ⟨n, rfl⟩ : ∃ j, n = j + 1 := ⟨n - 1, by omega⟩
      have := drop_nil hd
      simp only [laws_szNeedS_l0, lenC_encL, Option.bind_some]
      rw [decide_eq_false (by omega)]
      simp only [List.map_nil, List.sum_nil]
      rw [szI_zero h0, cond_false]
    | cons x ys ih =>
      intro i n l hd hn h0 h1 k m
      obtain ⟨n, rfl⟩ : ∃ j, n = j + 1 := ⟨n - 1, by omega⟩
      obtain ⟨hlt, hg, hd'⟩ := drop_cons hd
      have hxl := hx.1
      have hM := maxLen_eq
      have hb := hx.2 x (List.mem_of_getElem? hg)
      simp only [laws_szNeedS_l0, idxA_encL, hg, MNeed.enc, callS_canon, callL_canon, Option.map_some, Option.bind_some, shape_one, shape_agg, shape_nil, cellsAt_0, cellsAt_1, cellsAt_2, cellsAt_3, cells_one, cells_agg, cB_zero, cI_zero, cS_zero, cC_zero, cB_cons, cI_cons, cS_cons, cC_cons, cond_true, cond_false, List.length_cons, List.length_nil, beq_self_eq_true, Bool.and_true, Bool.true_and, lenC_encL, lenC_lst, deref_ref, emptyK_nil, bs_size, bs_toList]
      rw [decide_eq_true (by omega), cond_true, c_laws_szNeed _ _ hb (by omega) (by omega)]
      simp only [callS_canon, callL_canon, Option.map_some, Option.bind_some, shape_one, shape_agg, shape_nil, cellsAt_0, cellsAt_1, cellsAt_2, cellsAt_3, cells_one, cells_agg, cB_zero, cI_zero, cS_zero, cC_zero, cB_cons, cI_cons, cS_cons, cC_cons, cond_true, cond_false, List.length_cons, List.length_nil, beq_self_eq_true, Bool.and_true, Bool.true_and, lenC_encL, lenC_lst, deref_ref, emptyK_nil, bs_size, bs_toList, condSz]
      rw [wrap_succ (by omega)]
      simp only [List.map_cons, List.sum_cons]
      simp only [List.length_cons] at hn
      by_cases g : (((MNeed.wt x) : Nat) : Int) ≤ l
      · rw [if_pos g, szI_pos g, ih _ _ _ hd' (by omega) (by omega) (by omega), szI_add g]
      · rw [if_neg g, szI_over g]
  have hM := maxLen_eq
  have hxl := hx.1
  refine out_of (H := []) (run_laws_szNeedS_of (xs.length + 1) ?_)
  simp only [laws_szNeedS, lenC_encL, Option.bind_some]
  rw [wrap_small (by omega) (by omega)]
  by_cases g : (xs.length : Int) ≤ l
  · rw [decide_eq_false (by omega), cond_false]
    have := loop xs 0 (xs.length + 1 + 1) (l - xs.length) rfl (by omega) (by omega) (by omega) (xs.length + 1 + 1) (xs.length + 1 + 1)
    simp only [Int.natCast_zero] at this
    rw [this, szI_add g]
    rfl
  · rw [decide_eq_true (by omega), cond_true]
    have : szI (wtL MNeed.wt xs) l = -1 := szI_over g
    rw [this]
theorem c_laws_szCmd (x : MCmd) (l : Int) (hx : x.Bd maxLen) (h0 : 0 ≤ l) (h1 : l ≤ 1099511627776) : out run_laws_szCmd [.agg [Cell.str (bs x.Task), encL 1 eStr x.Acts], .one (Cell.int l)] = some [.one (Cell.int (szI x.wt l))] := by
  obtain ⟨b0, b1⟩ := hx
  have hM := maxLen_eq
  have k0 : x.Task.length ≤ maxLen := b0
  have q0 : wtS x.Task = x.Task.length := rfl
  refine out_of (H := []) (run_laws_szCmd_of 0 ?_)
  simp only [laws_szCmd, MCmd.wt, callS_canon, callL_canon, Option.map_some, Option.bind_some, shape_one, shape_agg, shape_nil, cellsAt_0, cellsAt_1, cellsAt_2, cellsAt_3, cells_one, cells_agg, cB_zero, cI_zero, cS_zero, cC_zero, cB_cons, cI_cons, cS_cons, cC_cons, cond_true, cond_false, List.length_cons, List.length_nil, beq_self_eq_true, Bool.and_true, Bool.true_and, lenC_encL, lenC_lst, deref_ref, emptyK_nil, bs_size, bs_toList]
  rw [wrap_small (by omega) (by omega)]
  by_cases g0 : (x.Task.length : Int) ≤ l
  · rw [decide_eq_false (by omega), cond_false]
    rw [c_laws_szStringS _ _ b1 (by omega) (by omega)]
    simp only [callS_canon, callL_canon, Option.map_some, Option.bind_some, shape_one, shape_agg, shape_nil, cellsAt_0, cellsAt_1, cellsAt_2, cellsAt_3, cells_one, cells_agg, cB_zero, cI_zero, cS_zero, cC_zero, cB_cons, cI_cons, cS_cons, cC_cons, cond_true, cond_false, List.length_cons, List.length_nil, beq_self_eq_true, Bool.and_true, Bool.true_and, lenC_encL, lenC_lst, deref_ref, emptyK_nil, bs_size, bs_toList, condSz]
    by_cases g1 : ((wtL wtS x.Acts : Nat) : Int) ≤ l - (x.Task.length : Int)
    · rw [if_pos g1, szI_pos g1]
      first | done | rw [szI_pos (by omega)]
      first | done | (congr 5 <;> omega)
    · rw [if_neg g1, szI_neg (by omega)]
  · rw [decide_eq_true (by omega), cond_true, szI_neg (by omega)]
theorem c_laws_szCmdS (xs : List MCmd) (l : Int) (hx : bdL maxLen (MCmd.Bd maxLen) xs) (h0 : 0 ≤ l) (h1 : l ≤ 1099511627776) : out run_laws_szCmdS [.one (encL 2 MCmd.enc xs), .one (Cell.int l)] = some [.one (Cell.int (szI (wtL MCmd.wt xs) l))] := by
  have loop : ∀ (ys : List MCmd) (i n : Nat) (l : Int), xs.drop i = ys → ys.length < n → 0 ≤ l → l ≤ 1099511627776 → ∀ k m, laws_szCmdS_l0 k m n (encL 2 MCmd.enc xs) l i = some ([.one (Cell.int (szI (ys.map MCmd.wt).sum l))], []) := by
    intro ys
    induction ys with
    | nil =>
      intro i n l hd hn h0 h1 k m
      obtain ⟨n, rfl⟩ : ∃ j, n = j + 1 := ⟨n - 1, by omega⟩
      have := drop_nil hd
      simp only [laws_szCmdS_l0, lenC_encL, Option.bind_some]
      rw [decide_eq_false (by omega)]
      simp only [List.map_nil, List.sum_nil]
      rw [szI_zero h0, cond_false]
    | cons x ys ih =>
      intro i n l hd hn h0 h1 k m
      obtain ⟨n, rfl⟩ : ∃ j, n = j + 1 := ⟨n - 1, by omega⟩
      obtain ⟨hlt, hg, hd'⟩ := drop_cons hd
      have hxl := hx.1
      have hM := maxLen_eq
      have hb := hx.2 x (List.mem_of_getElem? hg)
      simp only [laws_szCmdS_l0, idxA_encL, hg, MCmd.enc, callS_canon, callL_canon, Option.map_some, Option.bind_some, shape_one, shape_agg, shape_nil, cellsAt_0, cellsAt_1, cellsAt_2, cellsAt_3, cells_one, cells_agg, cB_zero, cI_zero, cS_zero, cC_zero, cB_cons, cI_cons, cS_cons, cC_cons, cond_true, cond_false, List.length_cons, List.length_nil, beq_self_eq_true, Bool.and_true, Bool.true_and, lenC_encL, lenC_lst, deref_ref, emptyK_nil, bs_size, bs_toList]
      rw [decide_eq_true (by omega), cond_true, c_laws_szCmd _ _ hb (by omega) (by omega)]
      simp only [callS_canon, callL_canon, Option.map_some, Option.bind_some, shape_one, shape_agg, shape_nil, cellsAt_0, cellsAt_1, cellsAt_2, cellsAt_3, cells_one, cells_agg, cB_zero, cI_zero, cS_zero, cC_zero, cB_cons, cI_cons, cS_cons, cC_cons, cond_true, cond_false, List.length_cons, List.length_nil, beq_self_eq_true, Bool.and_true, Bool.true_and, lenC_encL, lenC_lst, deref_ref, emptyK_nil, bs_size, bs_toList, condSz]
      rw [wrap_succ (by omega)]
      simp only [List.map_cons, List.sum_cons]
      simp only [List.length_cons] at hn
      by_cases g : (((MCmd.wt x) : Nat) : Int) ≤ l
      · rw [if_pos g, szI_pos g, ih _ _ _ hd' (by omega) (by omega) (by omega), szI_add g]
      · rw [if_neg g, szI_over g]
  have hM := maxLen_eq
  have hxl := hx.1
  refine out_of (H := []) (run_laws_szCmdS_of (xs.length + 1) ?_)
  simp only [laws_szCmdS, lenC_encL, Option.bind_some]
  rw [wrap_small (by omega) (by omega)]
  by_cases g : (xs.length : Int) ≤ l
  · rw [decide_eq_false (by omega), cond_false]
    have := loop xs 0 (xs.length + 1 + 1) (l - xs.length) rfl (by omega) (by omega) (by omega) (xs.length + 1 + 1) (xs.length + 1 + 1)
    simp only [Int.natCast_zero] at this
    rw [this, szI_add g]
    rfl
  · rw [decide_eq_true (by omega), cond_true]
    have : szI (wtL MCmd.wt xs) l = -1 := szI_over g
    rw [this]
theorem c_laws_szPack (x : MPack) (l : Int) (hx : x.Bd maxLen) (h0 : 0 ≤ l) (h1 : l ≤ 1099511627776) : out run_laws_szPack [.agg [Cell.str (bs x.Name), encL 1 eStr x.Uses, encL 2 MNeed.enc x.Needs, encL 2 MCmd.enc x.Cmds], .one (Cell.int l)] = some [.one (Cell.int (szI x.wt l))] := by
  obtain ⟨b0, b1, b2, b3⟩ := hx
  have hM := maxLen_eq
  have k0 : x.Name.length ≤ maxLen := b0
  have q0 : wtS x.Name = x.Name.length := rfl
  refine out_of (H := []) (run_laws_szPack_of 0 ?_)
  simp only [laws_szPack, MPack.wt, callS_canon, callL_canon, Option.map_some, Option.bind_some, shape_one, shape_agg, shape_nil, cellsAt_0, cellsAt_1, cellsAt_2, cellsAt_3, cells_one, cells_agg, cB_zero, cI_zero, cS_zero, cC_zero, cB_cons, cI_cons, cS_cons, cC_cons, cond_true, cond_false, List.length_cons, List.length_nil, beq_self_eq_true, Bool.and_true, Bool.true_and, lenC_encL, lenC_lst, deref_ref, emptyK_nil, bs_size, bs_toList]
  rw [wrap_small (by omega) (by omega)]
  by_cases g0 : (x.Name.length : Int) ≤ l
  · rw [decide_eq_false (by omega), cond_false]
    rw [c_laws_szStringS _ _ b1 (by omega) (by omega)]
    simp only [callS_canon, callL_canon, Option.map_some, Option.bind_some, shape_one, shape_agg, shape_nil, cellsAt_0, cellsAt_1, cellsAt_2, cellsAt_3, cells_one, cells_agg, cB_zero, cI_zero, cS_zero, cC_zero, cB_cons, cI_cons, cS_cons, cC_cons, cond_true, cond_false, List.length_cons, List.length_nil, beq_self_eq_true, Bool.and_true, Bool.true_and, lenC_encL, lenC_lst, deref_ref, emptyK_nil, bs_size, bs_toList, condSz]
    by_cases g1 : ((wtL wtS x.Uses : Nat) : Int) ≤ l - (x.Name.length : Int)
    · rw [if_pos g1, szI_pos g1]
      rw [c_laws_szNeedS _ _ b2 (by omega) (by omega)]
      simp only [callS_canon, callL_canon, Option.map_some, Option.bind_some, shape_one, shape_agg, shape_nil, cellsAt_0, cellsAt_1, cellsAt_2, cellsAt_3, cells_one, cells_agg, cB_zero, cI_zero, cS_zero, cC_zero, cB_cons, cI_cons, cS_cons, cC_cons, cond_true, cond_false, List.length_cons, List.length_nil, beq_self_eq_true, Bool.and_true, Bool.true_and, lenC_encL, lenC_lst, deref_ref, emptyK_nil, bs_size, bs_toList, condSz]
      by_cases g2 : ((wtL MNeed.wt x.Needs : Nat) : Int) ≤ l - (x.Name.length : Int) - ((wtL wtS x.Uses : Nat) : Int)
      · rw [if_pos g2, szI_pos g2]
        rw [c_laws_szCmdS _ _ b3 (by omega) (by omega)]
        simp only [callS_canon, callL_canon, Option.map_some, Option.bind_some, shape_one, shape_agg, shape_nil, cellsAt_0, cellsAt_1, cellsAt_2, cellsAt_3, cells_one, cells_agg, cB_zero, cI_zero, cS_zero, cC_zero, cB_cons, cI_cons, cS_cons, cC_cons, cond_true, cond_false, List.length_cons, List.length_nil, beq_self_eq_true, Bool.and_true, Bool.true_and, lenC_encL, lenC_lst, deref_ref, emptyK_nil, bs_size, bs_toList, condSz]
        by_cases g3 : ((wtL MCmd.wt x.Cmds : Nat) : Int) ≤ l - (x.Name.length : Int) - ((wtL wtS x.Uses : Nat) : Int) - ((wtL MNeed.wt x.Needs : Nat) : Int)
        · rw [if_pos g3, szI_pos g3]
          first | done | rw [szI_pos (by omega)]
          first | done | (congr 5 <;> omega)
        · rw [if_neg g3, szI_neg (by omega)]
      · rw [if_neg g2, szI_neg (by omega)]
    · rw [if_neg g1, szI_neg (by omega)]
  · rw [decide_eq_true (by omega), cond_true, szI_neg (by omega)]
theorem c_laws_szPackS (xs : List MPack) (l : Int) (hx : bdL maxLen (MPack.Bd maxLen) xs) (h0 : 0 ≤ l) (h1 : l ≤ 1099511627776) : out run_laws_szPackS [.one (encL 4 MPack.enc xs), .one (Cell.int l)] = some [.one (Cell.int (szI (wtL MPack.wt xs) l))] := by
  have loop : ∀ (ys : List MPack) (i n : Nat) (l : Int), xs.drop i = ys → ys.length < n → 0 ≤ l → l ≤ 1099511627776 → ∀ k m, laws_szPackS_l0 k m n (encL 4 MPack.enc xs) l i = some ([.one (Cell.int (szI (ys.map MPack.wt).sum l))], []) := by
    intro ys
    induction ys with
    | nil =>
      intro i n l hd hn h0 h1 k m
      obtain ⟨n, rfl⟩ : ∃ j, n = j + 1 := ⟨n - 1, by omega⟩
      have := drop_nil hd
      simp only [laws_szPackS_l0, lenC_encL, Option.bind_some]
      rw [decide_eq_false (by omega)]
      simp only [List.map_nil, List.sum_nil]
      rw [szI_zero h0, cond_false]
    | cons x ys ih =>
      intro i n l hd hn h0 h1 k m
      obtain ⟨n, rfl⟩ : ∃ j, n = j + 1 := ⟨n - 1, by omega⟩
      obtain ⟨hlt, hg, hd'⟩ := drop_cons hd
      have hxl := hx.1
      have hM := maxLen_eq
      have hb := hx.2 x (List.mem_of_getElem? hg)
      simp only [laws_szPackS_l0, idxA_encL, hg, MPack.enc, callS_canon, callL_canon, Option.map_some, Option.bind_some, shape_one, shape_agg, shape_nil, cellsAt_0, cellsAt_1, cellsAt_2, cellsAt_3, cells_one, cells_agg, cB_zero, cI_zero, cS_zero, cC_zero, cB_cons, cI_cons, cS_cons, cC_cons, cond_true, cond_false, List.length_cons, List.length_nil, beq_self_eq_true, Bool.and_true, Bool.true_and, lenC_encL, lenC_lst, deref_ref, emptyK_nil, bs_size, bs_toList]
      rw [decide_eq_true (by omega), cond_true, c_laws_szPack _ _ hb (by omega) (by omega)]
      simp only [callS_canon, callL_canon, Option.map_some, Option.bind_some, shape_one, shape_agg, shape_nil, cellsAt_0, cellsAt_1, cellsAt_2, cellsAt_3, cells_one, cells_agg, cB_zero, cI_zero, cS_zero, cC_zero, cB_cons, cI_cons, cS_cons, cC_cons, cond_true, cond_false, List.length_cons, List.length_nil, beq_self_eq_true, Bool.and_true, Bool.true_and, lenC_encL, lenC_lst, deref_ref, emptyK_nil, bs_size, bs_toList, condSz]
      rw [wrap_succ (by omega)]
      simp only [List.map_cons, List.sum_cons]
      simp only [List.length_cons] at hn
      by_cases g : (((MPack.wt x) : Nat) : Int) ≤ l
      · rw [if_pos g, szI_pos g, ih _ _ _ hd' (by omega) (by omega) (by omega), szI_add g]
      · rw [if_neg g, szI_over g]
  have hM := maxLen_eq
  have hxl := hx.1
  refine out_of (H := []) (run_laws_szPackS_of (xs.length + 1) ?_)
  simp only [laws_szPackS, lenC_encL, Option.bind_some]
  rw [wrap_small (by omega) (by omega)]
  by_cases g : (xs.length : Int) ≤ l
  · rw [decide_eq_false (by omega), cond_false]
    have := loop xs 0 (xs.length + 1 + 1) (l - xs.length) rfl (by omega) (by omega) (by omega) (xs.length + 1 + 1) (xs.length + 1 + 1)
    simp only [Int.natCast_zero] at this
    rw [this, szI_add g]
    rfl
  · rw [decide_eq_true (by omega), cond_true]
    have : szI (wtL MPack.wt xs) l = -1 := szI_over g
    rw [this]
theorem f_laws_toStringS (xs : List Str) (hb : bdL 1048576 (bdS 1048576) xs) : Fresh run_laws_toStringS true 2 [.one (encL 1 eStr xs)] [.one (trL 1 trStr xs)] := by
  have hxl : xs.length ≤ 1048576 := hb.1
  have hM := maxLen_eq
  refine fill_fresh (sz := 1) (n := 1) (z := [Cell.str (bs [])]) rfl (by intro c hc; simp only [List.mem_cons, List.not_mem_nil, or_false] at hc; rcases hc with rfl <;> rfl) trStr xs (fun m i H => laws_toStringS_l0 (xs.length + 1 + 1) (xs.length + 1 + 1) m (encL 1 eStr xs) (.vs 0 1 0 xs.length 0) i H) ?_ ?_ (xs.length + 1 + 1) (by omega) ?_
  · intro m i x H hi hm hx hg
    refine ⟨[.sc (.string (bs x))], [], [], ?_, rfl, Sp.leaf1 _, Mine.nil (by simp), by rw [List.append_nil]; exact hg⟩
    rw [List.append_nil]
    simp only [laws_toStringS_l0, lenC_encL, Option.bind_some, idxA_encL, hx, Option.map_some, deref_ref, eStr, cS_zero]
    rw [decide_eq_true (by omega), cond_true, idxA_vs _ _ _ _ _ hi, wrap_succ (by omega)]
    rfl
  · intro m H
    simp only [laws_toStringS_l0, lenC_encL, Option.bind_some]
    rw [decide_eq_false (by omega), cond_false]
  · intro r hr
    refine run_laws_toStringS_of (xs.length + 1) ?_
    simp only [laws_toStringS, lenC_encL, Option.bind_some]
    rw [if_pos (by unfold bound; refine ⟨?_, ?_, ?_, ?_⟩ <;> omega)]
    exact hr
theorem f_laws_toNeed (x : MNeed) (hx : x.Bd 1048576) : Fresh run_laws_toNeed true 1 [.agg [Cell.str (bs x.Name), Cell.str (bs x.Range)]] [.agg x.tr] := by
  obtain ⟨b0, b1⟩ := hx
  have hs : Sp (Rep (([] : List Entry)) true true 1) ([] : List Nat) [Cell.str (bs x.Name), Cell.str (bs x.Range)] x.tr := (Sp.append (Sp.leafD (H := ([] : List Entry)) (w := true) (q := true) (n := 1) (by omega) (.string (bs x.Name))) (Sp.append (Sp.leafD (H := ([] : List Entry)) (w := true) (q := true) (n := 1) (by omega) (.string (bs x.Range))) (Sp.nil)) :)
  have hw : Mine 0 (([] : List Entry)).length ([] : List Nat) := Mine.nil (Nat.zero_le _)
  refine Fresh.agg (run_laws_toNeed_of 0 ?_) hs hw.nd
  simp only [laws_toNeed, callS_canon, callL_canon, Option.map_some, Option.bind_some, shape_one, shape_agg, shape_nil, cellsAt_0, cellsAt_1, cellsAt_2, cellsAt_3, cells_one, cells_agg, cB_zero, cI_zero, cS_zero, cC_zero, cB_cons, cI_cons, cS_cons, cC_cons, cond_true, cond_false, List.length_cons, List.length_nil, beq_self_eq_true, Bool.and_true, Bool.true_and, lenC_encL, lenC_lst, deref_ref, emptyK_nil, bs_size, bs_toList]
theorem f_laws_toNeedS (xs : List MNeed) (hb : bdL 1048576 (MNeed.Bd 1048576) xs) : Fresh run_laws_toNeedS true 2 [.one (encL 2 MNeed.enc xs)] [.one (trL 2 MNeed.tr xs)] := by
  have hxl : xs.length ≤ 1048576 := hb.1
  have hM := maxLen_eq
  refine fill_fresh (sz := 2) (n := 1) (z := [Cell.str (bs []), Cell.str (bs [])]) rfl (by intro c hc; simp only [List.mem_cons, List.not_mem_nil, or_false] at hc; rcases hc with rfl | rfl <;> rfl) MNeed.tr xs (fun m i H => laws_toNeedS_l0 (xs.length + 1 + 1) (xs.length + 1 + 1) m (encL 2 MNeed.enc xs) (.vs 0 2 0 xs.length 0) i H) ?_ ?_ (xs.length + 1 + 1) (by omega) ?_
  · intro m i x H hi hm hx hg
    obtain ⟨cs, E, ids, e0, r0, w0, g0⟩ := freshA (f_laws_toNeed x (hb.2 x hm)) H (mapO_canon [.agg [Cell.str (bs x.Name), Cell.str (bs x.Range)]] _ _)
    obtain rfl := MNeed.open r0
    refine ⟨_, E, ids, ?_, rfl, r0, w0, g0 hg⟩
    simp only [laws_toNeedS_l0, lenC_encL, Option.bind_some, idxA_encL, hx, MNeed.enc, e0, callS_canon, callL_canon, Option.map_some, Option.bind_some, shape_one, shape_agg, shape_nil, cellsAt_0, cellsAt_1, cellsAt_2, cellsAt_3, cells_one, cells_agg, cB_zero, cI_zero, cS_zero, cC_zero, cB_cons, cI_cons, cS_cons, cC_cons, cond_true, cond_false, List.length_cons, List.length_nil, beq_self_eq_true, Bool.and_true, Bool.true_and, lenC_encL, lenC_lst, deref_ref, emptyK_nil, bs_size, bs_toList]
    rw [decide_eq_true (by omega), cond_true, idxA_vs _ _ _ _ _ hi, wrap_succ (by omega)]
    simp only [Option.bind_some]
  · intro m H
    simp only [laws_toNeedS_l0, lenC_encL, Option.bind_some]
    rw [decide_eq_false (by omega), cond_false]
  · intro r hr
    refine run_laws_toNeedS_of (xs.length + 1) ?_
    simp only [laws_toNeedS, lenC_encL, Option.bind_some]
    rw [if_pos (by unfold bound; refine ⟨?_, ?_, ?_, ?_⟩ <;> omega)]
    exact hr
theorem f_laws_toCmd (x : MCmd) (hx : x.Bd 1048576) : Fresh run_laws_toCmd true 2 [.agg [Cell.str (bs x.Task), encL 1 eStr x.Acts]] [.agg x.tr] := by
  obtain ⟨b0, b1⟩ := hx
  obtain ⟨c1, E1, i1, e1, r1, w1, g1⟩ := freshO (f_laws_toStringS (x.Acts) b1) (([] : List Entry)) (mapO_canon [.one (encL 1 eStr x.Acts)] _ _)
  have hs : Sp (Rep (([] : List Entry) ++ E1) true true 2) (i1 ++ ([] : List Nat)) [Cell.str (bs x.Task), c1] x.tr := (Sp.append (Sp.leafD (H := ([] : List Entry) ++ E1) (w := true) (q := true) (n := 2) (by omega) (.string (bs x.Task))) (Sp.append (Sp.one1 (Rep.more (m := 2) r1 (by omega))) (Sp.nil)) :)
  have hw : Mine 0 (([] : List Entry) ++ E1).length (i1 ++ ([] : List Nat)) := Mine.app w1 (Mine.nil (Nat.le_refl _))
  refine Fresh.agg (run_laws_toCmd_of 0 ?_) hs hw.nd
  simp only [laws_toCmd, e1, callS_canon, callL_canon, Option.map_some, Option.bind_some, shape_one, shape_agg, shape_nil, cellsAt_0, cellsAt_1, cellsAt_2, cellsAt_3, cells_one, cells_agg, cB_zero, cI_zero, cS_zero, cC_zero, cB_cons, cI_cons, cS_cons, cC_cons, cond_true, cond_false, List.length_cons, List.length_nil, beq_self_eq_true, Bool.and_true, Bool.true_and, lenC_encL, lenC_lst, deref_ref, emptyK_nil, bs_size, bs_toList]
theorem f_laws_toCmdS (xs : List MCmd) (hb : bdL 1048576 (MCmd.Bd 1048576) xs) : Fresh run_laws_toCmdS true 3 [.one (encL 2 MCmd.enc xs)] [.one (trL 2 MCmd.tr xs)] := by
  have hxl : xs.length ≤ 1048576 := hb.1
  have hM := maxLen_eq
  refine fill_fresh (sz := 2) (n := 2) (z := [Cell.str (bs []), .lst true 1 []]) rfl (by intro c hc; simp only [List.mem_cons, List.not_mem_nil, or_false] at hc; rcases hc with rfl | rfl <;> rfl) MCmd.tr xs (fun m i H => laws_toCmdS_l0 (xs.length + 1 + 1) (xs.length + 1 + 1) m (encL 2 MCmd.enc xs) (.vs 0 2 0 xs.length 0) i H) ?_ ?_ (xs.length + 1 + 1) (by omega) ?_
  · intro m i x H hi hm hx hg
    obtain ⟨cs, E, ids, e0, r0, w0, g0⟩ := freshA (f_laws_toCmd x (hb.2 x hm)) H (mapO_canon [.agg [Cell.str (bs x.Task), encL 1 eStr x.Acts]] _ _)
    obtain ⟨c1, rfl⟩ := MCmd.open r0
    refine ⟨_, E, ids, ?_, rfl, r0, w0, g0 hg⟩
    simp only [laws_toCmdS_l0, lenC_encL, Option.bind_some, idxA_encL, hx, MCmd.enc, e0, callS_canon, callL_canon, Option.map_some, Option.bind_some, shape_one, shape_agg, shape_nil, cellsAt_0, cellsAt_1, cellsAt_2, cellsAt_3, cells_one, cells_agg, cB_zero, cI_zero, cS_zero, cC_zero, cB_cons, cI_cons, cS_cons, cC_cons, cond_true, cond_false, List.length_cons, List.length_nil, beq_self_eq_true, Bool.and_true, Bool.true_and, lenC_encL, lenC_lst, deref_ref, emptyK_nil, bs_size, bs_toList]
    rw [decide_eq_true (by omega), cond_true, idxA_vs _ _ _ _ _ hi, wrap_succ (by omega)]
    simp only [Option.bind_some]
  · intro m H
    simp only [laws_toCmdS_l0, lenC_encL, Option.bind_some]
    rw [decide_eq_false (by omega), cond_false]
  · intro r hr
    refine run_laws_toCmdS_of (xs.length + 1) ?_
    simp only [laws_toCmdS, lenC_encL, Option.bind_some]
    rw [if_pos (by unfold bound; refine ⟨?_, ?_, ?_, ?_⟩ <;> omega)]
    exact hr
theorem f_laws_toPack (x : MPack) (hx : x.Bd 1048576) : Fresh run_laws_toPack true 3 [.agg [Cell.str (bs x.Name), encL 1 eStr x.Uses, encL 2 MNeed.enc x.Needs, encL 2 MCmd.enc x.Cmds]] [.agg x.tr] := by
  obtain ⟨b0, b1, b2, b3⟩ := hx
  obtain ⟨c1, E1, i1, e1, r1, w1, g1⟩ := freshO (f_laws_toStringS (x.Uses) b1) (([] : List Entry)) (mapO_canon [.one (encL 1 eStr x.Uses)] _ _)
  obtain ⟨c2, E2, i2, e2, r2, w2, g2⟩ := freshO (f_laws_toNeedS (x.Needs) b2) (([] : List Entry) ++ E1) (mapO_canon [.one (encL 2 MNeed.enc x.Needs)] _ _)
  obtain ⟨c3, E3, i3, e3, r3, w3, g3⟩ := freshO (f_laws_toCmdS (x.Cmds) b3) (([] : List Entry) ++ E1 ++ E2) (mapO_canon [.one (encL 2 MCmd.enc x.Cmds)] _ _)
  have hs : Sp (Rep (([] : List Entry) ++ E1 ++ E2 ++ E3) true true 3) (i1 ++ (i2 ++ (i3 ++ ([] : List Nat)))) [Cell.str (bs x.Name), c1, c2, c3] x.tr := (Sp.append (Sp.leafD (H := ([] : List Entry) ++ E1 ++ E2 ++ E3) (w := true) (q := true) (n := 3) (by omega) (.string (bs x.Name))) (Sp.append (Sp.one1 (Rep.more (m := 3) (Rep.app E3 (Rep.app E2 r1)) (by omega))) (Sp.append (Sp.one1 (Rep.more (m := 3) (Rep.app E3 r2) (by omega))) (Sp.append (Sp.one1 (Rep.more (m := 3) r3 (by omega))) (Sp.nil)))) :)
  have hw : Mine 0 (([] : List Entry) ++ E1 ++ E2 ++ E3).length (i1 ++ (i2 ++ (i3 ++ ([] : List Nat)))) := Mine.app w1 (Mine.app w2 (Mine.app w3 (Mine.nil (Nat.le_refl _))))
  refine Fresh.agg (run_laws_toPack_of 0 ?_) hs hw.nd
  simp only [laws_toPack, e1, e2, e3, callS_canon, callL_canon, Option.map_some, Option.bind_some, shape_one, shape_agg, shape_nil, cellsAt_0, cellsAt_1, cellsAt_2, cellsAt_3, cells_one, cells_agg, cB_zero, cI_zero, cS_zero, cC_zero, cB_cons, cI_cons, cS_cons, cC_cons, cond_true, cond_false, List.length_cons, List.length_nil, beq_self_eq_true, Bool.and_true, Bool.true_and, lenC_encL, lenC_lst, deref_ref, emptyK_nil, bs_size, bs_toList]
theorem f_laws_toPackS (xs : List MPack) (hb : bdL 1048576 (MPack.Bd 1048576) xs) : Fresh run_laws_toPackS true 4 [.one (encL 4 MPack.enc xs)] [.one (trL 4 MPack.tr xs)] := by
  have hxl : xs.length ≤ 1048576 := hb.1
  have hM := maxLen_eq
  refine fill_fresh (sz := 4) (n := 3) (z := [Cell.str (bs []), .lst true 1 [], .lst true 2 [], .lst true 2 []]) rfl (by intro c hc; simp only [List.mem_cons, List.not_mem_nil, or_false] at hc; rcases hc with rfl | rfl | rfl | rfl <;> rfl) MPack.tr xs (fun m i H => laws_toPackS_l0 (xs.length + 1 + 1) (xs.length + 1 + 1) m (encL 4 MPack.enc xs) (.vs 0 4 0 xs.length 0) i H) ?_ ?_ (xs.length + 1 + 1) (by omega) ?_
  · intro m i x H hi hm hx hg
    obtain ⟨cs, E, ids, e0, r0, w0, g0⟩ := freshA (f_laws_toPack x (hb.2 x hm)) H (mapO_canon [.agg [Cell.str (bs x.Name), encL 1 eStr x.Uses, encL 2 MNeed.enc x.Needs, encL 2 MCmd.enc x.Cmds]] _ _)
    obtain ⟨c1, c2, c3, rfl⟩ := MPack.open r0
    refine ⟨_, E, ids, ?_, rfl, r0, w0, g0 hg⟩
    simp only [laws_toPackS_l0, lenC_encL, Option.bind_some, idxA_encL, hx, MPack.enc, e0, callS_canon, callL_canon, Option.map_some, Option.bind_some, shape_one, shape_agg, shape_nil, cellsAt_0, cellsAt_1, cellsAt_2, cellsAt_3, cells_one, cells_agg, cB_zero, cI_zero, cS_zero, cC_zero, cB_cons, cI_cons, cS_cons, cC_cons, cond_true, cond_false, List.length_cons, List.length_nil, beq_self_eq_true, Bool.and_true, Bool.true_and, lenC_encL, lenC_lst, deref_ref, emptyK_nil, bs_size, bs_toList]
    rw [decide_eq_true (by omega), cond_true, idxA_vs _ _ _ _ _ hi, wrap_succ (by omega)]
    simp only [Option.bind_some]
  · intro m H
    simp only [laws_toPackS_l0, lenC_encL, Option.bind_some]
    rw [decide_eq_false (by omega), cond_false]
  · intro r hr
    refine run_laws_toPackS_of (xs.length + 1) ?_
    simp only [laws_toPackS, lenC_encL, Option.bind_some]
    rw [if_pos (by unfold bound; refine ⟨?_, ?_, ?_, ?_⟩ <;> omega)]
    exact hr
theorem c_laws_eqNeed (x y : MNeed) (hx : x.Bd 1048576) (hy : y.Bd 1048576) : out run_laws_eqNeed [.agg [Cell.str (bs x.Name), Cell.str (bs x.Range)], .agg [Cell.str (bs y.Name), Cell.str (bs y.Range)]] = some [.one (Cell.bool (decide (x = y)))] := by
  obtain ⟨b0, b1⟩ := hx
  obtain ⟨d0, d1⟩ := hy
  refine out_of (H := []) (run_laws_eqNeed_of 0 ?_)
  simp only [laws_eqNeed, callS_canon, callL_canon, Option.map_some, Option.bind_some, shape_one, shape_agg, shape_nil, cellsAt_0, cellsAt_1, cellsAt_2, cellsAt_3, cells_one, cells_agg, cB_zero, cI_zero, cS_zero, cC_zero, cB_cons, cI_cons, cS_cons, cC_cons, cond_true, cond_false, List.length_cons, List.length_nil, beq_self_eq_true, Bool.and_true, Bool.true_and, lenC_encL, lenC_lst, deref_ref, emptyK_nil, bs_size, bs_toList, condF, condNe]
  congr 5
  rw [Bool.eq_iff_iff]
  cases x; cases y
  simp [MNeed.mk.injEq]
theorem c_laws_eqNeedS (xs ys : List MNeed) (hx : bdL 1048576 (MNeed.Bd 1048576) xs) (hy : bdL 1048576 (MNeed.Bd 1048576) ys) : out run_laws_eqNeedS [.one (encL 2 MNeed.enc xs), .one (encL 2 MNeed.enc ys)] = some [.one (Cell.bool (decide (xs = ys)))] := by
  have hxl : xs.length ≤ 1048576 := hx.1
  have hM := maxLen_eq
  have loop : xs.length = ys.length → ∀ (us vs : List MNeed) (i n : Nat), xs.drop i = us → ys.drop i = vs → us.length < n → ∀ k m, laws_eqNeedS_l0 k m n (encL 2 MNeed.enc xs) (encL 2 MNeed.enc ys) i = some ([.one (Cell.bool (decide (us = vs)))], []) := by
    intro hlen us
    induction us with
    | nil =>
      intro vs i n hd he hn k m
      obtain ⟨n, rfl⟩ : ∃ j, n = j + 1 := ⟨n - 1, by omega⟩
      have := drop_nil hd
      have hv : vs = [] := by rw [← he]; exact List.drop_eq_nil_of_le (by omega)
      subst hv
      simp only [laws_eqNeedS_l0, lenC_encL, Option.bind_some]
      rw [decide_eq_false (by omega)]
      simp
    | cons x us ih =>
      intro vs i n hd he hn k m
      obtain ⟨n, rfl⟩ : ∃ j, n = j + 1 := ⟨n - 1, by omega⟩
      obtain ⟨hlt, hgx, hd'⟩ := drop_cons hd
      cases vs with
      | nil => have := drop_nil he; omega
      | cons y vs =>
      obtain ⟨hlt', hgy, he'⟩ := drop_cons he
      simp only [List.length_cons] at hn
      have hbx := hx.2 x (List.mem_of_getElem? hgx)
      have hby := hy.2 y (List.mem_of_getElem? hgy)
      simp only [laws_eqNeedS_l0, idxA_encL, hgx, hgy, MNeed.enc, c_laws_eqNeed _ _ hbx hby, callS_canon, callL_canon, Option.map_some, Option.bind_some, shape_one, shape_agg, shape_nil, cellsAt_0, cellsAt_1, cellsAt_2, cellsAt_3, cells_one, cells_agg, cB_zero, cI_zero, cS_zero, cC_zero, cB_cons, cI_cons, cS_cons, cC_cons, cond_true, cond_false, List.length_cons, List.length_nil, beq_self_eq_true, Bool.and_true, Bool.true_and, lenC_encL, lenC_lst, deref_ref, emptyK_nil, bs_size, bs_toList]
      rw [decide_eq_true (by omega)]
      simp only [callS_canon, callL_canon, Option.map_some, Option.bind_some, shape_one, shape_agg, shape_nil, cellsAt_0, cellsAt_1, cellsAt_2, cellsAt_3, cells_one, cells_agg, cB_zero, cI_zero, cS_zero, cC_zero, cB_cons, cI_cons, cS_cons, cC_cons, cond_true, cond_false, List.length_cons, List.length_nil, beq_self_eq_true, Bool.and_true, Bool.true_and, lenC_encL, lenC_lst, deref_ref, emptyK_nil, bs_size, bs_toList]
      rw [wrap_succ (by omega), ih vs (i + 1) n hd' he' (by omega), condF]
      congr 5
      rw [Bool.eq_iff_iff]
      simp
  refine out_of (H := []) (run_laws_eqNeedS_of (xs.length + 1) ?_)
  simp only [laws_eqNeedS, lenC_encL, Option.bind_some]
  by_cases h : xs.length = ys.length
  · rw [show (((xs.length : Nat) : Int) != (ys.length : Int)) = false by simp [h], cond_false]
    exact loop h xs ys 0 _ rfl rfl (by omega) _ _
  · rw [show (((xs.length : Nat) : Int) != (ys.length : Int)) = true by simp only [bne_iff_ne, ne_eq]; omega, cond_true]
    have : xs ≠ ys := fun e => h (by rw [e])
    simp [this]
theorem c_laws_eqCmd (x y : MCmd) (hx : x.Bd 1048576) (hy : y.Bd 1048576) : out run_laws_eqCmd [.agg [Cell.str (bs x.Task), encL 1 eStr x.Acts], .agg [Cell.str (bs y.Task), encL 1 eStr y.Acts]] = some [.one (Cell.bool (decide (x = y)))] := by
  obtain ⟨b0, b1⟩ := hx
  obtain ⟨d0, d1⟩ := hy
  refine out_of (H := []) (run_laws_eqCmd_of 0 ?_)
  simp only [laws_eqCmd, c_laws_eqStringS _ _ b1 d1, callS_canon, callL_canon, Option.map_some, Option.bind_some, shape_one, shape_agg, shape_nil, cellsAt_0, cellsAt_1, cellsAt_2, cellsAt_3, cells_one, cells_agg, cB_zero, cI_zero, cS_zero, cC_zero, cB_cons, cI_cons, cS_cons, cC_cons, cond_true, cond_false, List.length_cons, List.length_nil, beq_self_eq_true, Bool.and_true, Bool.true_and, lenC_encL, lenC_lst, deref_ref, emptyK_nil, bs_size, bs_toList, condF, condNe]
  congr 5
  rw [Bool.eq_iff_iff]
  cases x; cases y
  simp [MCmd.mk.injEq]
theorem c_laws_eqCmdS (xs ys : List MCmd) (hx : bdL 1048576 (MCmd.Bd 1048576) xs) (hy : bdL 1048576 (MCmd.Bd 1048576) ys) : out run_laws_eqCmdS [.one (encL 2 MCmd.enc xs), .one (encL 2 MCmd.enc ys)] = some [.one (Cell.bool (decide (xs = ys)))] := by
  have hxl : xs.length ≤ 1048576 := hx.1
  have hM := maxLen_eq
  have loop : xs.length = ys.length → ∀ (us vs : List MCmd) (i n : Nat), xs.drop i = us → ys.drop i = vs → us.length < n → ∀ k m, laws_eqCmdS_l0 k m n (encL 2 MCmd.enc xs) (encL 2 MCmd.enc ys) i = some ([.one (Cell.bool (decide (us = vs)))], []) := by
    intro hlen us
    induction us with
    | nil =>
      intro vs i n hd he hn k m
      obtain ⟨n, rfl⟩ : ∃ j, n = j + 1 := ⟨n - 1, by omega⟩
      have := drop_nil hd
      have hv : vs = [] := by rw [← he]; exact List.drop_eq_nil_of_le (by omega)
      subst hv
      simp only [laws_eqCmdS_l0, lenC_encL, Option.bind_some]
      rw [decide_eq_false (by omega)]
      simp
    | cons x us ih =>
      intro vs i n hd he hn k m
      obtain ⟨n, rfl⟩ : ∃ j, n = j + 1 := ⟨n - 1, by omega⟩
      obtain ⟨hlt, hgx, hd'⟩ := drop_cons hd
      cases vs with
      | nil => have := drop_nil he; omega
      | cons y vs =>
      obtain ⟨hlt', hgy, he'⟩ := drop_cons he
      simp only [List.length_cons] at hn
      have hbx := hx.2 x (List.mem_of_getElem? hgx)
      have hby := hy.2 y (List.mem_of_getElem? hgy)
      simp only [laws_eqCmdS_l0, idxA_encL, hgx, hgy, MCmd.enc, c_laws_eqCmd _ _ hbx hby, callS_canon, callL_canon, Option.map_some, Option.bind_some, shape_one, shape_agg, shape_nil, cellsAt_0, cellsAt_1, cellsAt_2, cellsAt_3, cells_one, cells_agg, cB_zero, cI_zero, cS_zero, cC_zero, cB_cons, cI_cons, cS_cons, cC_cons, cond_true, cond_false, List.length_cons, List.length_nil, beq_self_eq_true, Bool.and_true, Bool.true_and, lenC_encL, lenC_lst, deref_ref, emptyK_nil, bs_size, bs_toList]
      rw [decide_eq_true (by omega)]
      simp only [callS_canon, callL_canon, Option.map_some, Option.bind_some, shape_one, shape_agg, shape_nil, cellsAt_0, cellsAt_1, cellsAt_2, cellsAt_3, cells_one, cells_agg, cB_zero, cI_zero, cS_zero, cC_zero, cB_cons, cI_cons, cS_cons, cC_cons, cond_true, cond_false, List.length_cons, List.length_nil, beq_self_eq_true, Bool.and_true, Bool.true_and, lenC_encL, lenC_lst, deref_ref, emptyK_nil, bs_size, bs_toList]
      rw [wrap_succ (by omega), ih vs (i + 1) n hd' he' (by omega), condF]
      congr 5
      rw [Bool.eq_iff_iff]
      simp
  refine out_of (H := []) (run_laws_eqCmdS_of (xs.length + 1) ?_)
  simp only [laws_eqCmdS, lenC_encL, Option.bind_some]
  by_cases h : xs.length = ys.length
  · rw [show (((xs.length : Nat) : Int) != (ys.length : Int)) = false by simp [h], cond_false]
    exact loop h xs ys 0 _ rfl rfl (by omega) _ _
  · rw [show (((xs.length : Nat) : Int) != (ys.length : Int)) = true by simp only [bne_iff_ne, ne_eq]; omega, cond_true]
    have : xs ≠ ys := fun e => h (by rw [e])
    simp [this]
theorem c_laws_eqPack (x y : MPack) (hx : x.Bd 1048576) (hy : y.Bd 1048576) : out run_laws_eqPack [.agg [Cell.str (bs x.Name), encL 1 eStr x.Uses, encL 2 MNeed.enc x.Needs, encL 2 MCmd.enc x.Cmds], .agg [Cell.str (bs y.Name), encL 1 eStr y.Uses, encL 2 MNeed.enc y.Needs, encL 2 MCmd.enc y.Cmds]] = some [.one (Cell.bool (decide (x = y)))] := by
  obtain ⟨b0, b1, b2, b3⟩ := hx
  obtain ⟨d0, d1, d2, d3⟩ := hy
  refine out_of (H := []) (run_laws_eqPack_of 0 ?_)
  simp only [laws_eqPack, c_laws_eqStringS _ _ b1 d1, c_laws_eqNeedS _ _ b2 d2, c_laws_eqCmdS _ _ b3 d3, callS_canon, callL_canon, Option.map_some, Option.bind_some, shape_one, shape_agg, shape_nil, cellsAt_0, cellsAt_1, cellsAt_2, cellsAt_3, cells_one, cells_agg, cB_zero, cI_zero, cS_zero, cC_zero, cB_cons, cI_cons, cS_cons, cC_cons, cond_true, cond_false, List.length_cons, List.length_nil, beq_self_eq_true, Bool.and_true, Bool.true_and, lenC_encL, lenC_lst, deref_ref, emptyK_nil, bs_size, bs_toList, condF, condNe]
  congr 5
  rw [Bool.eq_iff_iff]
  cases x; cases y
  simp [MPack.mk.injEq]
theorem c_laws_eqPackS (xs ys : List MPack) (hx : bdL 1048576 (MPack.Bd 1048576) xs) (hy : bdL 1048576 (MPack.Bd 1048576) ys) : out run_laws_eqPackS [.one (encL 4 MPack.enc xs), .one (encL 4 MPack.enc ys)] = some [.one (Cell.bool (decide (xs = ys)))] := by
  have hxl : xs.length ≤ 1048576 := hx.1
  have hM := maxLen_eq
  have loop : xs.length = ys.length → ∀ (us vs : List MPack) (i n : Nat), xs.drop i = us → ys.drop i = vs → us.length < n → ∀ k m, laws_eqPackS_l0 k m n (encL 4 MPack.enc xs) (encL 4 MPack.enc ys) i = some ([.one (Cell.bool (decide (us = vs)))], []) := by
    intro hlen us
    induction us with
    | nil =>
      intro vs i n hd he hn k m
      obtain ⟨n, rfl⟩ : ∃ j, n = j + 1 := ⟨n - 1, by omega⟩
      have := drop_nil hd
      have hv : vs = [] := by rw [← he]; exact List.drop_eq_nil_of_le (by omega)
      subst hv
      simp only [laws_eqPackS_l0, lenC_encL, Option.bind_some]
      rw [decide_eq_false (by omega)]
      simp
    | cons x us ih =>
      intro vs i n hd he hn k m
      obtain ⟨n, rfl⟩ : ∃ j, n = j + 1 := ⟨n - 1, by omega⟩
      obtain ⟨hlt, hgx, hd'⟩ := drop_cons hd
      cases vs with
      | nil => have := drop_nil he; omega
      | cons y vs =>
      obtain ⟨hlt', hgy, he'⟩ := drop_cons he
      simp only [List.length_cons] at hn
      have hbx := hx.2 x (List.mem_of_getElem? hgx)
      have hby := hy.2 y (List.mem_of_getElem? hgy)
      simp only [laws_eqPackS_l0, idxA_encL, hgx, hgy, MPack.enc, c_laws_eqPack _ _ hbx hby, callS_canon, callL_canon, Option.map_some, Option.bind_some, shape_one, shape_agg, shape_nil, cellsAt_0, cellsAt_1, cellsAt_2, cellsAt_3, cells_one, cells_agg, cB_zero, cI_zero, cS_zero, cC_zero, cB_cons, cI_cons, cS_cons, cC_cons, cond_true, cond_false, List.length_cons, List.length_nil, beq_self_eq_true, Bool.and_true, Bool.true_and, lenC_encL, lenC_lst, deref_ref, emptyK_nil, bs_size, bs_toList]
      rw [decide_eq_true (by omega)]
      simp only [callS_canon, callL_canon, Option.map_some, Option.bind_some, shape_one, shape_agg, shape_nil, cellsAt_0, cellsAt_1, cellsAt_2, cellsAt_3, cells_one, cells_agg, cB_zero, cI_zero, cS_zero, cC_zero, cB_cons, cI_cons, cS_cons, cC_cons, cond_true, cond_false, List.length_cons, List.length_nil, beq_self_eq_true, Bool.and_true, Bool.true_and, lenC_encL, lenC_lst, deref_ref, emptyK_nil, bs_size, bs_toList]
      rw [wrap_succ (by omega), ih vs (i + 1) n hd' he' (by omega), condF]
      congr 5
      rw [Bool.eq_iff_iff]
      simp
  refine out_of (H := []) (run_laws_eqPackS_of (xs.length + 1) ?_)
  simp only [laws_eqPackS, lenC_encL, Option.bind_some]
  by_cases h : xs.length = ys.length
  · rw [show (((xs.length : Nat) : Int) != (ys.length : Int)) = false by simp [h], cond_false]
    exact loop h xs ys 0 _ rfl rfl (by omega) _ _
  · rw [show (((xs.length : Nat) : Int) != (ys.length : Int)) = true by simp only [bne_iff_ne, ne_eq]; omega, cond_true]
    have : xs ≠ ys := fun e => h (by rw [e])
    simp [this]
theorem k_laws_markNeedS {H : List Entry} {w : Bool} {n : Nat} {ids : List Nat} {c : Cell} (xs : List MNeed) (k : Nat) (hx : bdL maxLen (MNeed.Bd maxLen) xs) (h : Rep H w true n ids c (trL 2 MNeed.tr xs)) (hn : ids.Nodup) (hk : k + cntL MNeed.cntR xs ≤ markMax) :
    ∃ H', run_laws_markNeedS [.one c, .one (Cell.int (k : Int))] H = some ([.one (Cell.int ((k + cntL MNeed.cntR xs : Nat) : Int))], H') ∧ Upd ids H H' ∧ Rep H' w true n ids c (trL 2 MNeed.tr (mkL MNeed.mkR MNeed.cntR xs k)) := by
  cases n with
  | zero => exact h.elim
  | succ n =>
  have hM := maxLen_eq
  have hlen := h.lenC
  rw [List.length_map] at hlen
  have hxl : xs.length ≤ maxLen := hx.1
  obtain ⟨H', e1, u, r⟩ := mark_loop (sz := 2) (c := c) MNeed.tr MNeed.mkR MNeed.cntR xs (fun m k i H => laws_markNeedS_l0 (xs.length + 1 + 1) (xs.length + 1 + 1) m c k i H) (by
    intro m i k x H trs hi hm hr hl hk h
    have h0 : Rep H w true (n + 1) ids c (.list 2 (trs.set i (MNeed.tr x))) := by rw [set_same hr]; exact h
    have hi' : i < trs.length := by omega
    have hb := hx.2 x hm
    have hk0 := hk
    simp only [MNeed.cntR] at hk
    obtain ⟨id0, p0, q0, row0, a0, d0, st0, sb0⟩ := h0.idxR hn hi'
    obtain ⟨H0, s0, u0, h1⟩ := st0 0 _ (.string (bs (markB k))) rfl
    have y0 : IntKind.i64.wrap (((k : Nat) : Int) + 1) = ((k + 1 : Nat) : Int) := wrapK (by omega)
    obtain ⟨id1, p1, q1, row1, a1, d1, st1, sb1⟩ := h1.idxR hn hi'
    obtain ⟨rfl, rfl, rfl⟩ := ptr_same a0 a1
    obtain ⟨H1, s1, u1, h2⟩ := st1 1 _ (.string (bs (markB (k + 1)))) rfl
    have y1 : IntKind.i64.wrap ((((k + 1) : Nat) : Int) + 1) = (((k + 1) + 1 : Nat) : Int) := wrapK (by omega)
    have ek : k + MNeed.cntR x = ((k + 1) + 1) := (by simp only [MNeed.cntR] <;> omega)
    refine ⟨H1, ?_, u0.trans (u1), h2⟩
    rw [ek]
    simp only [laws_markNeedS_l0, hlen, Option.bind_some]
    rw [decide_eq_true (by omega), cond_true]
    simp only [a0, s0, c_laws_markText k (by omega), y0, a1, s1, c_laws_markText (k + 1) (by omega), y1, fldA_ptr, Nat.zero_add, Nat.reduceAdd, wrap_u8, callS_canon, callL_canon, Option.map_some, Option.bind_some, shape_one, shape_agg, shape_nil, cellsAt_0, cellsAt_1, cellsAt_2, cellsAt_3, cells_one, cells_agg, cB_zero, cI_zero, cS_zero, cC_zero, cB_cons, cI_cons, cS_cons, cC_cons, cond_true, cond_false, List.length_cons, List.length_nil, beq_self_eq_true, Bool.and_true, Bool.true_and, lenC_encL, lenC_lst, deref_ref, emptyK_nil, bs_size, bs_toList]
    rw [wrap_succ (by omega)]) (by
    intro m k H
    simp only [laws_markNeedS_l0, hlen, Option.bind_some]
    rw [decide_eq_false (by omega), cond_false]) (xs.length + 1 + 1) k H (by omega) hk h
  exact ⟨H', run_laws_markNeedS_of (xs.length + 1) (by simp only [laws_markNeedS]; exact e1), u, r⟩
theorem k_laws_markCmdS {H : List Entry} {w : Bool} {n : Nat} {ids : List Nat} {c : Cell} (xs : List MCmd) (k : Nat) (hx : bdL maxLen (MCmd.Bd maxLen) xs) (h : Rep H w true n ids c (trL 2 MCmd.tr xs)) (hn : ids.Nodup) (hk : k + cntL MCmd.cntR xs ≤ markMax) :
    ∃ H', run_laws_markCmdS [.one c, .one (Cell.int (k : Int))] H = some ([.one (Cell.int ((k + cntL MCmd.cntR xs : Nat) : Int))], H') ∧ Upd ids H H' ∧ Rep H' w true n ids c (trL 2 MCmd.tr (mkL MCmd.mkR MCmd.cntR xs k)) := by
  cases n with
  | zero => exact h.elim
  | succ n =>
  have hM := maxLen_eq
  have hlen := h.lenC
  rw [List.length_map] at hlen
  have hxl : xs.length ≤ maxLen := hx.1
  obtain ⟨H', e1, u, r⟩ := mark_loop (sz := 2) (c := c) MCmd.tr MCmd.mkR MCmd.cntR xs (fun m k i H => laws_markCmdS_l0 (xs.length + 1 + 1) (xs.length + 1 + 1) m c k i H) (by
    intro m i k x H trs hi hm hr hl hk h
    have h0 : Rep H w true (n + 1) ids c (.list 2 (trs.set i (MCmd.tr x))) := by rw [set_same hr]; exact h
    have hi' : i < trs.length := by omega
    have hb := hx.2 x hm
    have hk0 := hk
    simp only [MCmd.cntR] at hk
    obtain ⟨id0, p0, q0, row0, a0, d0, st0, sb0⟩ := h0.idxR hn hi'
    obtain ⟨H0, s0, u0, h1⟩ := st0 0 _ (.string (bs (markB k))) rfl
    have y0 : IntKind.i64.wrap (((k : Nat) : Int) + 1) = ((k + 1 : Nat) : Int) := wrapK (by omega)
    obtain ⟨id1, p1, q1, row1, a1, d1, st1, sb1⟩ := h1.idxR hn hi'
    obtain ⟨rfl, rfl, rfl⟩ := ptr_same a0 a1
    obtain ⟨cc1, sub1, g1, r1, nd1, bk1⟩ := sb1 1 _ rfl
    obtain ⟨H1, s1, v1, z1⟩ := k_laws_markStringS (x.Acts) (k + 1) (hb.2) r1 nd1 (by omega)
    obtain ⟨u1, h2⟩ := bk1 _ _ v1 z1
    have ek : k + MCmd.cntR x = ((k + 1) + cntL one1 x.Acts) := (by simp only [MCmd.cntR] <;> omega)
    refine ⟨H1, ?_, u0.trans (u1), h2⟩
    rw [ek]
    simp only [laws_markCmdS_l0, hlen, Option.bind_some]
    rw [decide_eq_true (by omega), cond_true]
    simp only [a0, s0, c_laws_markText k (by omega), y0, a1, d1, g1, s1, fldA_ptr, Nat.zero_add, Nat.reduceAdd, wrap_u8, callS_canon, callL_canon, Option.map_some, Option.bind_some, shape_one, shape_agg, shape_nil, cellsAt_0, cellsAt_1, cellsAt_2, cellsAt_3, cells_one, cells_agg, cB_zero, cI_zero, cS_zero, cC_zero, cB_cons, cI_cons, cS_cons, cC_cons, cond_true, cond_false, List.length_cons, List.length_nil, beq_self_eq_true, Bool.and_true, Bool.true_and, lenC_encL, lenC_lst, deref_ref, emptyK_nil, bs_size, bs_toList]
    rw [wrap_succ (by omega)]) (by
    intro m k H
    simp only [laws_markCmdS_l0, hlen, Option.bind_some]
    rw [decide_eq_false (by omega), cond_false]) (xs.length + 1 + 1) k H (by omega) hk h
  exact ⟨H', run_laws_markCmdS_of (xs.length + 1) (by simp only [laws_markCmdS]; exact e1), u, r⟩
theorem k_laws_markPackS {H : List Entry} {w : Bool} {n : Nat} {ids : List Nat} {c : Cell} (xs : List MPack) (k : Nat) (hx : bdL maxLen (MPack.Bd maxLen) xs) (h : Rep H w true n ids c (trL 4 MPack.tr xs)) (hn : ids.Nodup) (hk : k + cntL MPack.cntR xs ≤ markMax) :
    ∃ H', run_laws_markPackS [.one c, .one (Cell.int (k : Int))] H = some ([.one (Cell.int ((k + cntL MPack.cntR xs : Nat) : Int))], H') ∧ Upd ids H H' ∧ Rep H' w true n ids c (trL 4 MPack.tr (mkL MPack.mkR MPack.cntR xs k)) := by
  cases n with
  | zero => exact h.elim
  | succ n =>
  have hM := maxLen_eq
  have hlen := h.lenC
  rw [List.length_map] at hlen
  have hxl : xs.length ≤ maxLen := hx.1
  obtain ⟨H', e1, u, r⟩ := mark_loop (sz := 4) (c := c) MPack.tr MPack.mkR MPack.cntR xs (fun m k i H => laws_markPackS_l0 (xs.length + 1 + 1) (xs.length + 1 + 1) m c k i H) (by
    intro m i k x H trs hi hm hr hl hk h
    have h0 : Rep H w true (n + 1) ids c (.list 4 (trs.set i (MPack.tr x))) := by rw [set_same hr]; exact h
    have hi' : i < trs.length := by omega
    have hb := hx.2 x hm
    have hk0 := hk
    simp only [MPack.cntR] at hk
    obtain ⟨id0, p0, q0, row0, a0, d0, st0, sb0⟩ := h0.idxR hn hi'
    obtain ⟨H0, s0, u0, h1⟩ := st0 0 _ (.string (bs (markB k))) rfl
    have y0 : IntKind.i64.wrap (((k : Nat) : Int) + 1) = ((k + 1 : Nat) : Int) := wrapK (by omega)
    obtain ⟨id1, p1, q1, row1, a1, d1, st1, sb1⟩ := h1.idxR hn hi'
    obtain ⟨rfl, rfl, rfl⟩ := ptr_same a0 a1
    obtain ⟨cc1, sub1, g1, r1, nd1, bk1⟩ := sb1 1 _ rfl
    obtain ⟨H1, s1, v1, z1⟩ := k_laws_markStringS (x.Uses) (k + 1) (hb.2.1) r1 nd1 (by omega)
    obtain ⟨u1, h2⟩ := bk1 _ _ v1 z1
    obtain ⟨id2, p2, q2, row2, a2, d2, st2, sb2⟩ := h2.idxR hn hi'
    obtain ⟨rfl, rfl, rfl⟩ := ptr_same a0 a2
    obtain ⟨cc2, sub2, g2, r2, nd2, bk2⟩ := sb2 2 _ rfl
    obtain ⟨H2, s2, v2, z2⟩ := k_laws_markNeedS (x.Needs) ((k + 1) + cntL one1 x.Uses) (hb.2.2.1) r2 nd2 (by omega)
    obtain ⟨u2, h3⟩ := bk2 _ _ v2 z2
    obtain ⟨id3, p3, q3, row3, a3, d3, st3, sb3⟩ := h3.idxR hn hi'
    obtain ⟨rfl, rfl, rfl⟩ := ptr_same a0 a3
    obtain ⟨cc3, sub3, g3, r3, nd3, bk3⟩ := sb3 3 _ rfl
    obtain ⟨H3, s3, v3, z3⟩ := k_laws_markCmdS (x.Cmds) (((k + 1) + cntL one1 x.Uses) + cntL MNeed.cntR x.Needs) (hb.2.2.2) r3 nd3 (by omega)
    obtain ⟨u3, h4⟩ := bk3 _ _ v3 z3
    have ek : k + MPack.cntR x = ((((k + 1) + cntL one1 x.Uses) + cntL MNeed.cntR x.Needs) + cntL MCmd.cntR x.Cmds) := (by simp only [MPack.cntR] <;> omega)
    refine ⟨H3, ?_, u0.trans (u1.trans (u2.trans (u3))), h4⟩
    rw [ek]
    simp only [laws_markPackS_l0, hlen, Option.bind_some]
    rw [decide_eq_true (by omega), cond_true]
    simp only [a0, s0, c_laws_markText k (by omega), y0, a1, d1, g1, s1, a2, d2, g2, s2, a3, d3, g3, s3, fldA_ptr, Nat.zero_add, Nat.reduceAdd, wrap_u8, callS_canon, callL_canon, Option.map_some, Option.bind_some, shape_one, shape_agg, shape_nil, cellsAt_0, cellsAt_1, cellsAt_2, cellsAt_3, cells_one, cells_agg, cB_zero, cI_zero, cS_zero, cC_zero, cB_cons, cI_cons, cS_cons, cC_cons, cond_true, cond_false, List.length_cons, List.length_nil, beq_self_eq_true, Bool.and_true, Bool.true_and, lenC_encL, lenC_lst, deref_ref, emptyK_nil, bs_size, bs_toList]
    rw [wrap_succ (by omega)]) (by
    intro m k H
    simp only [laws_markPackS_l0, hlen, Option.bind_some]
    rw [decide_eq_false (by omega), cond_false]) (xs.length + 1 + 1) k H (by omega) hk h
  exact ⟨H', run_laws_markPackS_of (xs.length + 1) (by simp only [laws_markPackS]; exact e1), u, r⟩
end Go.Ev
