/- What the laws' own functions come to: sizes, copies, comparisons. Conditions: none. -/
import Derived.Test.YtiocamjonchabaaDoorEvMod
import Derived.Test.YtiocamjonchabaaDoorSh2
set_option linter.unusedSimpArgs false
set_option linter.unusedVariables false
namespace Go.Ev
open Go
theorem c_laws_eqByteS (xs ys : Str) {N : Nat} (hx : bdS N xs) (hy : bdS N ys) (hN : N ≤ 1099511627776 := by omega) : out run_laws_eqByteS [.one (bytesC xs), .one (bytesC ys)] = some [.one (Cell.bool (decide (xs = ys)))] := by
  have hxl : xs.length ≤ 1099511627776 := Nat.le_trans hx hN
  have hM := maxLen_eq
  have loop : xs.length = ys.length → ∀ (us vs : Str) (i n : Nat), xs.drop i = us → ys.drop i = vs → us.length < n → ∀ k m, laws_eqByteS_l0 k m n (bytesC xs) (bytesC ys) i = some ([.one (Cell.bool (decide (us = vs)))], []) := by
    intro hlen us
    induction us with
    | nil =>
      intro vs i n hd he hn k m
      obtain ⟨n, rfl⟩ : ∃ j, n = j + 1 := ⟨n - 1, by omega⟩
      have := drop_nil hd
      have hv : vs = [] := by rw [← he]; exact List.drop_eq_nil_of_le (by omega)
      subst hv
      simp only [laws_eqByteS_l0, lenC_encL, Option.bind_some]
      rw [decide_eq_false (by omega)]
      simp
    | cons x us ih =>
      intro vs i n hd he hn k m
      obtain ⟨n, rfl⟩ : ∃ j, n = j + 1 := ⟨n - 1, by omega⟩
      obtain ⟨hlt, hgx, hd'⟩ := drop_cons hd
      cases vs with
      | nil => have := drop_nil he; omega
      | cons y vs =>
      obtain ⟨hlt', hgy, he'⟩ := drop_cons he
      simp only [List.length_cons] at hn
      simp only [laws_eqByteS_l0, idxA_encL, hgx, hgy, eByte, callS_canon, callL_canon, Option.map_some, Option.bind_some, shape_one, shape_agg, shape_nil, cellsAt_0, cellsAt_1, cellsAt_2, cellsAt_3, cells_one, cells_agg, cB_zero, cI_zero, cS_zero, cC_zero, cB_cons, cI_cons, cS_cons, cC_cons, cond_true, cond_false, List.length_cons, List.length_nil, beq_self_eq_true, Bool.and_true, Bool.true_and, lenC_encL, lenC_lst, deref_ref, emptyK_nil, bs_size, bs_toList]
      rw [decide_eq_true (by omega)]
      simp only [callS_canon, callL_canon, Option.map_some, Option.bind_some, shape_one, shape_agg, shape_nil, cellsAt_0, cellsAt_1, cellsAt_2, cellsAt_3, cells_one, cells_agg, cB_zero, cI_zero, cS_zero, cC_zero, cB_cons, cI_cons, cS_cons, cC_cons, cond_true, cond_false, List.length_cons, List.length_nil, beq_self_eq_true, Bool.and_true, Bool.true_and, lenC_encL, lenC_lst, deref_ref, emptyK_nil, bs_size, bs_toList]
      rw [wrap_succ (by omega), ih vs (i + 1) n hd' he' (by omega), condNe]
      congr 5
      rw [Bool.eq_iff_iff]
      simp only [Bool.and_eq_true, beq_iff_eq, decide_eq_true_eq, List.cons.injEq]
      have : ((x.toNat : Int) = (y.toNat : Int)) ↔ x = y := ⟨fun h => UInt8.toNat_inj.1 (by omega), fun h => by rw [h]⟩
      rw [this]
  refine out_of (H := []) (run_laws_eqByteS_of (xs.length + 1) ?_)
  simp only [laws_eqByteS, lenC_encL, Option.bind_some]
  by_cases h : xs.length = ys.length
  · rw [show (((xs.length : Nat) : Int) != (ys.length : Int)) = false by simp [h], cond_false]
    exact loop h xs ys 0 _ rfl rfl (by omega) _ _
  · rw [show (((xs.length : Nat) : Int) != (ys.length : Int)) = true by simp only [bne_iff_ne, ne_eq]; omega, cond_true]
    have : xs ≠ ys := fun e => h (by rw [e])
    simp [this]
theorem k_laws_markByteS {H : List Entry} {w : Bool} {n : Nat} {ids : List Nat} {c : Cell} (xs : Str) (k : Nat) (hx : bdS maxLen xs) (h : Rep H w true n ids c (trL 1 trByte xs)) (hn : ids.Nodup) (hk : k + cntL one1 xs ≤ markMax) :
    ∃ H', run_laws_markByteS [.one c, .one (Cell.int (k : Int))] H = some ([.one (Cell.int ((k + cntL one1 xs : Nat) : Int))], H') ∧ Upd ids H H' ∧ Rep H' w true n ids c (trL 1 trByte (mkL mkByte one1 xs k)) := by
  cases n with
  | zero => exact h.elim
  | succ n =>
  have hM := maxLen_eq
  have hlen := h.lenC
  rw [List.length_map] at hlen
  have hxl : xs.length ≤ maxLen := hx
  obtain ⟨H', e1, u, r⟩ := mark_loop (sz := 1) (c := c) trByte mkByte one1 xs (fun m k i H => laws_markByteS_l0 (xs.length + 1 + 1) (xs.length + 1 + 1) m c k i H) (by
    intro m i k x H trs hi hm hr hl hk h
    have h0 : Rep H w true (n + 1) ids c (.list 1 (trs.set i (trByte x))) := by rw [set_same hr]; exact h
    have hi' : i < trs.length := by omega
    have hk0 := hk
    simp only [one1] at hk
    obtain ⟨id0, p0, q0, row0, a0, d0, st0, sb0⟩ := h0.idxR hn hi'
    obtain ⟨H0, s0, u0, h1⟩ := st0 0 _ (.int .u8 ((UInt8.ofNat k).toNat : Int)) rfl
    have y0 : IntKind.i64.wrap (((k : Nat) : Int) + 1) = ((k + 1 : Nat) : Int) := wrapK (by omega)
    have ek : k + one1 x = (k + 1) := rfl
    refine ⟨H0, ?_, u0, h1⟩
    rw [ek]
    simp only [laws_markByteS_l0, hlen, Option.bind_some]
    rw [decide_eq_true (by omega), cond_true]
    simp only [a0, s0, y0, fldA_ptr, Nat.zero_add, Nat.reduceAdd, wrap_u8, callS_canon, callL_canon, Option.map_some, Option.bind_some, shape_one, shape_agg, shape_nil, cellsAt_0, cellsAt_1, cellsAt_2, cellsAt_3, cells_one, cells_agg, cB_zero, cI_zero, cS_zero, cC_zero, cB_cons, cI_cons, cS_cons, cC_cons, cond_true, cond_false, List.length_cons, List.length_nil, beq_self_eq_true, Bool.and_true, Bool.true_and, lenC_encL, lenC_lst, deref_ref, emptyK_nil, bs_size, bs_toList]
    rw [wrap_succ (by omega)]) (by
    intro m k H
    simp only [laws_markByteS_l0, hlen, Option.bind_some]
    rw [decide_eq_false (by omega), cond_false]) (xs.length + 1 + 1) k H (by omega) hk h
  exact ⟨H', run_laws_markByteS_of (xs.length + 1) (by simp only [laws_markByteS]; exact e1), u, r⟩
theorem e_laws_heldByteS (xs : Str) (k : Nat) (hx : bdS maxLen xs) (hk : k + cntL one1 xs ≤ markMax) : out run_laws_heldByteS [.one (encL 1 eByte (mkL mkByte one1 xs k)), .one (Cell.int (k : Int))] = some [.one (Cell.int ((k + cntL one1 xs : Nat) : Int))] := by
  have hM := maxLen_eq
  have hyl : (mkL mkByte one1 xs k).length ≤ maxLen := by rw [mkL_length]; exact hx
  have loop : ∀ (ys : Str) (hyl : ys.length ≤ maxLen) (r : Str) (i k n : Nat), ys.drop i = mkL mkByte one1 r k → (∀ y ∈ r, True) → r.length < n → k + cntL one1 r ≤ markMax → ∀ K m, laws_heldByteS_l0 K m n (encL 1 eByte ys) k i = some ([.one (Cell.int ((k + cntL one1 r : Nat) : Int))], []) := by
    intro ys hyl r
    induction r with
    | nil =>
      intro i k n hd hx hn hk K m
      obtain ⟨n, rfl⟩ : ∃ j, n = j + 1 := ⟨n - 1, by omega⟩
      have := drop_nil hd
      simp only [laws_heldByteS_l0, lenC_encL, Option.bind_some]
      rw [decide_eq_false (by omega), cond_false, cntL_nil, Nat.add_zero]
    | cons x r ih =>
      intro i k n hd hx hn hk K m
      obtain ⟨n, rfl⟩ : ∃ j, n = j + 1 := ⟨n - 1, by omega⟩
      obtain ⟨hlt, hg, hd'⟩ := drop_cons hd
      simp only [List.length_cons] at hn
      rw [cntL_cons, ← Nat.add_assoc] at hk ⊢
      have hk0 := hk
      have ek : k + one1 x = (k + 1) := rfl
      rw [ek] at hk hd' ⊢
      have y0 : IntKind.i64.wrap (((k : Nat) : Int) + 1) = ((k + 1 : Nat) : Int) := wrapK (by omega)
      simp only [laws_heldByteS_l0, lenC_encL, Option.bind_some, idxA_encL, hg, eByte, mkByte, wrap_u8, bne_self_eq_false, Bool.not_true, fldA_ref, Nat.zero_add, Nat.reduceAdd, y0, callS_canon, callL_canon, Option.map_some, Option.bind_some, shape_one, shape_agg, shape_nil, cellsAt_0, cellsAt_1, cellsAt_2, cellsAt_3, cells_one, cells_agg, cB_zero, cI_zero, cS_zero, cC_zero, cB_cons, cI_cons, cS_cons, cC_cons, cond_true, cond_false, List.length_cons, List.length_nil, beq_self_eq_true, Bool.and_true, Bool.true_and, lenC_encL, lenC_lst, deref_ref, emptyK_nil, bs_size, bs_toList]
      rw [decide_eq_true (by omega), cond_true, wrap_succ (by omega)]
      exact ih _ _ _ hd' (fun y hy => hx y (List.mem_cons_of_mem _ hy)) (by omega) (by omega) _ _
  refine out_of (H := []) (run_laws_heldByteS_of (xs.length + 1) ?_)
  simp only [laws_heldByteS]
  have := loop _ hyl xs 0 k (xs.length + 1 + 1) rfl (fun _ _ => trivial) (by omega) hk (xs.length + 1 + 1) (xs.length + 1 + 1)
  simp only [Int.natCast_zero] at this
  exact this
theorem c_laws_szFile (x : MFile) (l : Int) (hx : x.Bd maxLen) (h0 : 0 ≤ l) (h1 : l ≤ 1099511627776) : out run_laws_szFile [.agg [Cell.str (bs x.Path), Cell.str (bs x.Text)], .one (Cell.int l)] = some [.one (Cell.int (szI x.wt l))] := by
  obtain ⟨b0, b1⟩ := hx
  have hM := maxLen_eq
  have k0 : x.Path.length ≤ maxLen := b0
  have q0 : wtS x.Path = x.Path.length := rfl
  have k1 : x.Text.length ≤ maxLen := b1
  have q1 : wtS x.Text = x.Text.length := rfl
  refine out_of (H := []) (run_laws_szFile_of 0 ?_)
  simp only [laws_szFile, MFile.wt, callS_canon, callL_canon, Option.map_some, Option.bind_some, shape_one, shape_agg, shape_nil, cellsAt_0, cellsAt_1, cellsAt_2, cellsAt_3, cells_one, cells_agg, cB_zero, cI_zero, cS_zero, cC_zero, cB_cons, cI_cons, cS_cons, cC_cons, cond_true, cond_false, List.length_cons, List.length_nil, beq_self_eq_true, Bool.and_true, Bool.true_and, lenC_encL, lenC_lst, deref_ref, emptyK_nil, bs_size, bs_toList]
  rw [wrap_small (by omega) (by omega)]
  by_cases g0 : (x.Path.length : Int) ≤ l
  · rw [decide_eq_false (by omega), cond_false]
    rw [wrap_small (by omega) (by omega)]
    by_cases g1 : (x.Text.length : Int) ≤ l - (x.Path.length : Int)
    · rw [decide_eq_false (by omega), cond_false]
      first | done | rw [szI_pos (by omega)]
      first | done | (congr 5 <;> omega)
    · rw [decide_eq_true (by omega), cond_true, szI_neg (by omega)]
  · rw [decide_eq_true (by omega), cond_true, szI_neg (by omega)]
theorem c_laws_szFileS (xs : List MFile) (l : Int) (hx : bdL maxLen (MFile.Bd maxLen) xs) (h0 : 0 ≤ l) (h1 : l ≤ 1099511627776) : out run_laws_szFileS [.one (encL 2 MFile.enc xs), .one (Cell.int l)] = some [.one (Cell.int (szI (wtL MFile.wt xs) l))] := by
  have loop : ∀ (ys : List MFile) (i n : Nat) (l : Int), xs.drop i = ys → ys.length < n → 0 ≤ l → l ≤ 1099511627776 → ∀ k m, laws_szFileS_l0 k m n (encL 2 MFile.enc xs) l i = some ([.one (Cell.int (szI (ys.map MFile.wt).sum l))], []) := by
    intro ys
    induction ys with
    | nil =>
      intro i n l hd hn h0 h1 k m
      obtain ⟨n, rfl⟩ : ∃ j, n = j + 1 := ⟨n - 1, by omega⟩
      have := drop_nil hd
      simp only [laws_szFileS_l0, lenC_encL, Option.bind_some]
      rw [decide_eq_false (by omega)]
      simp only [List.map_nil, List.sum_nil]
      rw [szI_zero h0, cond_false]
    | cons x ys ih =>
      intro i n l hd hn h0 h1 k m
      obtain ⟨n, rfl⟩ : ∃ j, n = j + 1 := ⟨n - 1, by omega⟩
      obtain ⟨hlt, hg, hd'⟩ := drop_cons hd
      have hxl := hx.1
      have hM := maxLen_eq
      have hb := hx.2 x (List.mem_of_getElem? hg)
      simp only [laws_szFileS_l0, idxA_encL, hg, MFile.enc, callS_canon, callL_canon, Option.map_some, Option.bind_some, shape_one, shape_agg, shape_nil, cellsAt_0, cellsAt_1, cellsAt_2, cellsAt_3, cells_one, cells_agg, cB_zero, cI_zero, cS_zero, cC_zero, cB_cons, cI_cons, cS_cons, cC_cons, cond_true, cond_false, List.length_cons, List.length_nil, beq_self_eq_true, Bool.and_true, Bool.true_and, lenC_encL, lenC_lst, deref_ref, emptyK_nil, bs_size, bs_toList]
      rw [decide_eq_true (by omega), cond_true, c_laws_szFile _ _ hb (by omega) (by omega)]
      simp only [callS_canon, callL_canon, Option.map_some, Option.bind_some, shape_one, shape_agg, shape_nil, cellsAt_0, cellsAt_1, cellsAt_2, cellsAt_3, cells_one, cells_agg, cB_zero, cI_zero, cS_zero, cC_zero, cB_cons, cI_cons, cS_cons, cC_cons, cond_true, cond_false, List.length_cons, List.length_nil, beq_self_eq_true, Bool.and_true, Bool.true_and, lenC_encL, lenC_lst, deref_ref, emptyK_nil, bs_size, bs_toList, condSz]
      rw [wrap_succ (by omega)]
      simp only [List.map_cons, List.sum_cons]
      simp only [List.length_cons] at hn
      by_cases g : (((MFile.wt x) : Nat) : Int) ≤ l
      · rw [if_pos g, szI_pos g, ih _ _ _ hd' (by omega) (by omega) (by omega), szI_add g]
      · rw [if_neg g, szI_over g]
  have hM := maxLen_eq
  have hxl := hx.1
  refine out_of (H := []) (run_laws_szFileS_of (xs.length + 1) ?_)
  simp only [laws_szFileS, lenC_encL, Option.bind_some]
  rw [wrap_small (by omega) (by omega)]
  by_cases g : (xs.length : Int) ≤ l
  · rw [decide_eq_false (by omega), cond_false]
    have := loop xs 0 (xs.length + 1 + 1) (l - xs.length) rfl (by omega) (by omega) (by omega) (xs.length + 1 + 1) (xs.length + 1 + 1)
    simp only [Int.natCast_zero] at this
    rw [this, szI_add g]
    rfl
  · rw [decide_eq_true (by omega), cond_true]
    have : szI (wtL MFile.wt xs) l = -1 := szI_over g
    rw [this]
theorem c_laws_szStringS (xs : List Str) (l : Int) (hx : bdL maxLen (bdS maxLen) xs) (h0 : 0 ≤ l) (h1 : l ≤ 1099511627776) : out run_laws_szStringS [.one (encL 1 eStr xs), .one (Cell.int l)] = some [.one (Cell.int (szI (wtL wtS xs) l))] := by
  have loop : ∀ (ys : List Str) (i n : Nat) (l : Int), xs.drop i = ys → ys.length < n → 0 ≤ l → l ≤ 1099511627776 → ∀ k m, laws_szStringS_l0 k m n (encL 1 eStr xs) l i = some ([.one (Cell.int (szI (ys.map wtS).sum l))], []) := by
    intro ys
    induction ys with
    | nil =>
      intro i n l hd hn h0 h1 k m
      obtain ⟨n, rfl⟩ : ∃ j, n = j + 1 := ⟨n - 1, by omega⟩
      have := drop_nil hd
      simp only [laws_szStringS_l0, lenC_encL, Option.bind_some]
      rw [decide_eq_false (by omega)]
      simp only [List.map_nil, List.sum_nil]
      rw [szI_zero h0, cond_false]
    | cons x ys ih =>
      intro i n l hd hn h0 h1 k m
      obtain ⟨n, rfl⟩ : ∃ j, n = j + 1 := ⟨n - 1, by omega⟩
      obtain ⟨hlt, hg, hd'⟩ := drop_cons hd
      have hxl := hx.1
      have hM := maxLen_eq
      have hb : x.length ≤ maxLen := hx.2 x (List.mem_of_getElem? hg)
      simp only [laws_szStringS_l0, lenC_encL, Option.bind_some, idxA_encL, hg, Option.map_some, deref_ref, eStr, cS_zero, bs_size]
      rw [decide_eq_true (by omega), cond_true, wrap_succ (by omega), wrap_small (by omega) (by omega)]
      simp only [List.map_cons, List.sum_cons, wtS]
      simp only [List.length_cons] at hn
      by_cases g : (x.length : Int) ≤ l
      · rw [decide_eq_false (by omega), cond_false, ih _ _ _ hd' (by omega) (by omega) (by omega), szI_add g]
      · rw [decide_eq_true (by omega), cond_true, szI_over g]
  have hM := maxLen_eq
  have hxl := hx.1
  refine out_of (H := []) (run_laws_szStringS_of (xs.length + 1) ?_)
  simp only [laws_szStringS, lenC_encL, Option.bind_some]
  rw [wrap_small (by omega) (by omega)]
  by_cases g : (xs.length : Int) ≤ l
  · rw [decide_eq_false (by omega), cond_false]
    have := loop xs 0 (xs.length + 1 + 1) (l - xs.length) rfl (by omega) (by omega) (by omega) (xs.length + 1 + 1) (xs.length + 1 + 1)
    simp only [Int.natCast_zero] at this
    rw [this, szI_add g]
    rfl
  · rw [decide_eq_true (by omega), cond_true]
    have : szI (wtL wtS xs) l = -1 := szI_over g
    rw [this]
theorem c_laws_szEnv (x : MEnv) (l : Int) (hx : x.Bd maxLen) (h0 : 0 ≤ l) (h1 : l ≤ 1099511627776) : out run_laws_szEnv [.agg [Cell.str (bs x.Name), Cell.str (bs x.Val)], .one (Cell.int l)] = some [.one (Cell.int (szI x.wt l))] := by
  obtain ⟨b0, b1⟩ := hx
  have hM := maxLen_eq
  have k0 : x.Name.length ≤ maxLen := b0
  have q0 : wtS x.Name = x.Name.length := rfl
  have k1 : x.Val.length ≤ maxLen := b1
  have q1 : wtS x.Val = x.Val.length := rfl
  refine out_of (H := []) (run_laws_szEnv_of 0 ?_)
  simp only [laws_szEnv, MEnv.wt, callS_canon, callL_canon, Option.map_some, Option.bind_some, shape_one, shape_agg, shape_nil, cellsAt_0, cellsAt_1, cellsAt_2, cellsAt_3, cells_one, cells_agg, cB_zero, cI_zero, cS_zero, cC_zero, cB_cons, cI_cons, cS_cons, cC_cons, cond_true, cond_false, List.length_cons, List.length_nil, beq_self_eq_true, Bool.and_true, Bool.true_and, lenC_encL, lenC_lst, deref_ref, emptyK_nil, bs_size, bs_toList]
  rw [wrap_small (by omega) (by omega)]
  by_cases g0 : (x.Name.length : Int) ≤ l
  · rw [decide_eq_false (by omega), cond_false]
    rw [wrap_small (by omega) (by omega)]
    by_cases g1 : (x.Val.length : Int) ≤ l - (x.Name.length : Int)
    · rw [decide_eq_false (by omega), cond_false]
      first | done | rw [szI_pos (by omega)]
      first | done | (congr 5 <;> omega)
    · rw [decide_eq_true (by omega), cond_true, szI_neg (by omega)]
  · rw [decide_eq_true (by omega), cond_true, szI_neg (by omega)]
theorem c_laws_szEnvS (xs : List MEnv) (l : Int) (hx : bdL maxLen (MEnv.Bd maxLen) xs) (h0 : 0 ≤ l) (h1 : l ≤ 1099511627776) : out run_laws_szEnvS [.one (encL 2 MEnv.enc xs), .one (Cell.int l)] = some [.one (Cell.int (szI (wtL MEnv.wt xs) l))] := by
  have loop : ∀ (ys : List MEnv) (i n : Nat) (l : Int), xs.drop i = ys → ys.length < n → 0 ≤ l → l ≤ 1099511627776 → ∀ k m, laws_szEnvS_l0 k m n (encL 2 MEnv.enc xs) l i = some ([.one (Cell.int (szI (ys.map MEnv.wt).sum l))], []) := by
    intro ys
    induction ys with
    | nil =>
      intro i n l hd hn h0 h1 k m
      obtain ⟨n, rfl⟩ : ∃ j, n = j + 1 := ⟨n - 1, by omega⟩
      have := drop_nil hd
      simp only [laws_szEnvS_l0, lenC_encL, Option.bind_some]
      rw [decide_eq_false (by omega)]
      simp only [List.map_nil, List.sum_nil]
      rw [szI_zero h0, cond_false]
    | cons x ys ih =>
      intro i n l hd hn h0 h1 k m
      obtain ⟨n, rfl⟩ : ∃ j, n = j + 1 := ⟨n - 1, by omega⟩
      obtain ⟨hlt, hg, hd'⟩ := drop_cons hd
      have hxl := hx.1
      have hM := maxLen_eq
      have hb := hx.2 x (List.mem_of_getElem? hg)
      simp only [laws_szEnvS_l0, idxA_encL, hg, MEnv.enc, callS_canon, callL_canon, Option.map_some, Option.bind_some, shape_one, shape_agg, shape_nil, cellsAt_0, cellsAt_1, cellsAt_2, cellsAt_3, cells_one, cells_agg, cB_zero, cI_zero, cS_zero, cC_zero, cB_cons, cI_cons, cS_cons, cC_cons, cond_true, cond_false, List.length_cons, List.length_nil, beq_self_eq_true, Bool.and_true, Bool.true_and, lenC_encL, lenC_lst, deref_ref, emptyK_nil, bs_size, bs_toList]
      rw [decide_eq_true (by omega), cond_true, c_laws_szEnv _ _ hb (by omega) (by omega)]
      simp only [callS_canon, callL_canon, Option.map_some, Option.bind_some, shape_one, shape_agg, shape_nil, cellsAt_0, cellsAt_1, cellsAt_2, cellsAt_3, cells_one, cells_agg, cB_zero, cI_zero, cS_zero, cC_zero, cB_cons, cI_cons, cS_cons, cC_cons, cond_true, cond_false, List.length_cons, List.length_nil, beq_self_eq_true, Bool.and_true, Bool.true_and, lenC_encL, lenC_lst, deref_ref, emptyK_nil, bs_size, bs_toList, condSz]
      rw [wrap_succ (by omega)]
      simp only [List.map_cons, List.sum_cons]
      simp only [List.length_cons] at hn
      by_cases g : (((MEnv.wt x) : Nat) : Int) ≤ l
      · rw [if_pos g, szI_pos g, ih _ _ _ hd' (by omega) (by omega) (by omega), szI_add g]
      · rw [if_neg g, szI_over g]
  have hM := maxLen_eq
  have hxl := hx.1
  refine out_of (H := []) (run_laws_szEnvS_of (xs.length + 1) ?_)
  simp only [laws_szEnvS, lenC_encL, Option.bind_some]
  rw [wrap_small (by omega) (by omega)]
  by_cases g : (xs.length : Int) ≤ l
  · rw [decide_eq_false (by omega), cond_false]
    have := loop xs 0 (xs.length + 1 + 1) (l - xs.length) rfl (by omega) (by omega) (by omega) (xs.length + 1 + 1) (xs.length + 1 + 1)
    simp only [Int.natCast_zero] at this
    rw [this, szI_add g]
    rfl
  · rw [decide_eq_true (by omega), cond_true]
    have : szI (wtL MEnv.wt xs) l = -1 := szI_over g
    rw [this]
theorem c_laws_szMade (x : MMade) (l : Int) (hx : x.Bd maxLen) (h0 : 0 ≤ l) (h1 : l ≤ 1099511627776) : out run_laws_szMade [.agg [Cell.str (bs x.Task), encL 2 MFile.enc x.Outs, Cell.str (bs x.Log)], .one (Cell.int l)] = some [.one (Cell.int (szI x.wt l))] := by
  obtain ⟨b0, b1, b2⟩ := hx
  have hM := maxLen_eq
  have k0 : x.Task.length ≤ maxLen := b0
  have q0 : wtS x.Task = x.Task.length := rfl
  have k2 : x.Log.length ≤ maxLen := b2
  have q2 : wtS x.Log = x.Log.length := rfl
  refine out_of (H := []) (run_laws_szMade_of 0 ?_)
  simp only [laws_szMade, MMade.wt, callS_canon, callL_canon, Option.map_some, Option.bind_some, shape_one, shape_agg, shape_nil, cellsAt_0, cellsAt_1, cellsAt_2, cellsAt_3, cells_one, cells_agg, cB_zero, cI_zero, cS_zero, cC_zero, cB_cons, cI_cons, cS_cons, cC_cons, cond_true, cond_false, List.length_cons, List.length_nil, beq_self_eq_true, Bool.and_true, Bool.true_and, lenC_encL, lenC_lst, deref_ref, emptyK_nil, bs_size, bs_toList]
  rw [wrap_small (by omega) (by omega)]
  by_cases g0 : (x.Task.length : Int) ≤ l
  · rw [decide_eq_false (by omega), cond_false]
    rw [c_laws_szFileS _ _ b1 (by omega) (by omega)]
    simp only [callS_canon, callL_canon, Option.map_some, Option.bind_some, shape_one, shape_agg, shape_nil, cellsAt_0, cellsAt_1, cellsAt_2, cellsAt_3, cells_one, cells_agg, cB_zero, cI_zero, cS_zero, cC_zero, cB_cons, cI_cons, cS_cons, cC_cons, cond_true, cond_false, List.length_cons, List.length_nil, beq_self_eq_true, Bool.and_true, Bool.true_and, lenC_encL, lenC_lst, deref_ref, emptyK_nil, bs_size, bs_toList, condSz]
    by_cases g1 : ((wtL MFile.wt x.Outs : Nat) : Int) ≤ l - (x.Task.length : Int)
    · rw [if_pos g1, szI_pos g1]
      rw [wrap_small (by omega) (by omega)]
      by_cases g2 : (x.Log.length : Int) ≤ l - (x.Task.length : Int) - ((wtL MFile.wt x.Outs : Nat) : Int)
      · rw [decide_eq_false (by omega), cond_false]
        first | done | rw [szI_pos (by omega)]
        first | done | (congr 5 <;> omega)
      · rw [decide_eq_true (by omega), cond_true, szI_neg (by omega)]
    · rw [if_neg g1, szI_neg (by omega)]
  · rw [decide_eq_true (by omega), cond_true, szI_neg (by omega)]
theorem c_laws_szMadeS (xs : List MMade) (l : Int) (hx : bdL maxLen (MMade.Bd maxLen) xs) (h0 : 0 ≤ l) (h1 : l ≤ 1099511627776) : out run_laws_szMadeS [.one (encL 3 MMade.enc xs), .one (Cell.int l)] = some [.one (Cell.int (szI (wtL MMade.wt xs) l))] := by
  have loop : ∀ (ys : List MMade) (i n : Nat) (l : Int), xs.drop i = ys → ys.length < n → 0 ≤ l → l ≤ 1099511627776 → ∀ k m, laws_szMadeS_l0 k m n (encL 3 MMade.enc xs) l i = some ([.one (Cell.int (szI (ys.map MMade.wt).sum l))], []) := by
    intro ys
    induction ys with
    | nil =>
      intro i n l hd hn h0 h1 k m
      obtain ⟨n, rfl⟩ : ∃ j, n = j + 1 := ⟨n - 1, by omega⟩
      have := drop_nil hd
      simp only [laws_szMadeS_l0, lenC_encL, Option.bind_some]
      rw [decide_eq_false (by omega)]
      simp only [List.map_nil, List.sum_nil]
      rw [szI_zero h0, cond_false]
    | cons x ys ih =>
      intro i n l hd hn h0 h1 k m
      obtain ⟨n, rfl⟩ : ∃ j, n = j + 1 := ⟨n - 1, by omega⟩
      obtain ⟨hlt, hg, hd'⟩ := drop_cons hd
      have hxl := hx.1
      have hM := maxLen_eq
      have hb := hx.2 x (List.mem_of_getElem? hg)
      simp only [laws_szMadeS_l0, idxA_encL, hg, MMade.enc, callS_canon, callL_canon, Option.map_some, Option.bind_some, shape_one, shape_agg, shape_nil, cellsAt_0, cellsAt_1, cellsAt_2, cellsAt_3, cells_one, cells_agg, cB_zero, cI_zero, cS_zero, cC_zero, cB_cons, cI_cons, cS_cons, cC_cons, cond_true, cond_false, List.length_cons, List.length_nil, beq_self_eq_true, Bool.and_true, Bool.true_and, lenC_encL, lenC_lst, deref_ref, emptyK_nil, bs_size, bs_toList]
      rw [decide_eq_true (by omega), cond_true, c_laws_szMade _ _ hb (by omega) (by omega)]
      simp only [callS_canon, callL_canon, Option.map_some, Option.bind_some, shape_one, shape_agg, shape_nil, cellsAt_0, cellsAt_1, cellsAt_2, cellsAt_3, cells_one, cells_agg, cB_zero, cI_zero, cS_zero, cC_zero, cB_cons, cI_cons, cS_cons, cC_cons, cond_true, cond_false, List.length_cons, List.length_nil, beq_self_eq_true, Bool.and_true, Bool.true_and, lenC_encL, lenC_lst, deref_ref, emptyK_nil, bs_size, bs_toList, condSz]
      rw [wrap_succ (by omega)]
      simp only [List.map_cons, List.sum_cons]
      simp only [List.length_cons] at hn
      by_cases g : (((MMade.wt x) : Nat) : Int) ≤ l
      · rw [if_pos g, szI_pos g, ih _ _ _ hd' (by omega) (by omega) (by omega), szI_add g]
      · rw [if_neg g, szI_over g]
  have hM := maxLen_eq
  have hxl := hx.1
  refine out_of (H := []) (run_laws_szMadeS_of (xs.length + 1) ?_)
  simp only [laws_szMadeS, lenC_encL, Option.bind_some]
  rw [wrap_small (by omega) (by omega)]
  by_cases g : (xs.length : Int) ≤ l
  · rw [decide_eq_false (by omega), cond_false]
    have := loop xs 0 (xs.length + 1 + 1) (l - xs.length) rfl (by omega) (by omega) (by omega) (xs.length + 1 + 1) (xs.length + 1 + 1)
    simp only [Int.natCast_zero] at this
    rw [this, szI_add g]
    rfl
  · rw [decide_eq_true (by omega), cond_true]
    have : szI (wtL MMade.wt xs) l = -1 := szI_over g
    rw [this]
theorem c_laws_szJob (x : MJob) (l : Int) (hx : x.Bd maxLen) (h0 : 0 ≤ l) (h1 : l ≤ 1099511627776) : out run_laws_szJob [.agg [Cell.str (bs x.Name), encL 1 eStr x.Acts, encL 2 MFile.enc x.Ins, encL 2 MEnv.enc x.Envs, encL 3 MMade.enc x.Deps], .one (Cell.int l)] = some [.one (Cell.int (szI x.wt l))] := by
  obtain ⟨b0, b1, b2, b3, b4⟩ := hx
  have hM := maxLen_eq
  have k0 : x.Name.length ≤ maxLen := b0
  have q0 : wtS x.Name = x.Name.length := rfl
  refine out_of (H := []) (run_laws_szJob_of 0 ?_)
  simp only [laws_szJob, MJob.wt, callS_canon, callL_canon, Option.map_some, Option.bind_some, shape_one, shape_agg, shape_nil, cellsAt_0, cellsAt_1, cellsAt_2, cellsAt_3, cells_one, cells_agg, cB_zero, cI_zero, cS_zero, cC_zero, cB_cons, cI_cons, cS_cons, cC_cons, cond_true, cond_false, List.length_cons, List.length_nil, beq_self_eq_true, Bool.and_true, Bool.true_and, lenC_encL, lenC_lst, deref_ref, emptyK_nil, bs_size, bs_toList]
  rw [wrap_small (by omega) (by omega)]
  by_cases g0 : (x.Name.length : Int) ≤ l
  · rw [decide_eq_false (by omega), cond_false]
    rw [c_laws_szStringS _ _ b1 (by omega) (by omega)]
    simp only [callS_canon, callL_canon, Option.map_some, Option.bind_some, shape_one, shape_agg, shape_nil, cellsAt_0, cellsAt_1, cellsAt_2, cellsAt_3, cells_one, cells_agg, cB_zero, cI_zero, cS_zero, cC_zero, cB_cons, cI_cons, cS_cons, cC_cons, cond_true, cond_false, List.length_cons, List.length_nil, beq_self_eq_true, Bool.and_true, Bool.true_and, lenC_encL, lenC_lst, deref_ref, emptyK_nil, bs_size, bs_toList, condSz]
    by_cases g1 : ((wtL wtS x.Acts : Nat) : Int) ≤ l - (x.Name.length : Int)
    · rw [if_pos g1, szI_pos g1]
      rw [c_laws_szFileS _ _ b2 (by omega) (by omega)]
      simp only [callS_canon, callL_canon, Option.map_some, Option.bind_some, shape_one, shape_agg, shape_nil, cellsAt_0, cellsAt_1, cellsAt_2, cellsAt_3, cells_one, cells_agg, cB_zero, cI_zero, cS_zero, cC_zero, cB_cons, cI_cons, cS_cons, cC_cons, cond_true, cond_false, List.length_cons, List.length_nil, beq_self_eq_true, Bool.and_true, Bool.true_and, lenC_encL, lenC_lst, deref_ref, emptyK_nil, bs_size, bs_toList, condSz]
      by_cases g2 : ((wtL MFile.wt x.Ins : Nat) : Int) ≤ l - (x.Name.length : Int) - ((wtL wtS x.Acts : Nat) : Int)
      · rw [if_pos g2, szI_pos g2]
        rw [c_laws_szEnvS _ _ b3 (by omega) (by omega)]
        simp only [callS_canon, callL_canon, Option.map_some, Option.bind_some, shape_one, shape_agg, shape_nil, cellsAt_0, cellsAt_1, cellsAt_2, cellsAt_3, cells_one, cells_agg, cB_zero, cI_zero, cS_zero, cC_zero, cB_cons, cI_cons, cS_cons, cC_cons, cond_true, cond_false, List.length_cons, List.length_nil, beq_self_eq_true, Bool.and_true, Bool.true_and, lenC_encL, lenC_lst, deref_ref, emptyK_nil, bs_size, bs_toList, condSz]
        by_cases g3 : ((wtL MEnv.wt x.Envs : Nat) : Int) ≤ l - (x.Name.length : Int) - ((wtL wtS x.Acts : Nat) : Int) - ((wtL MFile.wt x.Ins : Nat) : Int)
        · rw [if_pos g3, szI_pos g3]
          rw [c_laws_szMadeS _ _ b4 (by omega) (by omega)]
          simp only [callS_canon, callL_canon, Option.map_some, Option.bind_some, shape_one, shape_agg, shape_nil, cellsAt_0, cellsAt_1, cellsAt_2, cellsAt_3, cells_one, cells_agg, cB_zero, cI_zero, cS_zero, cC_zero, cB_cons, cI_cons, cS_cons, cC_cons, cond_true, cond_false, List.length_cons, List.length_nil, beq_self_eq_true, Bool.and_true, Bool.true_and, lenC_encL, lenC_lst, deref_ref, emptyK_nil, bs_size, bs_toList, condSz]
          by_cases g4 : ((wtL MMade.wt x.Deps : Nat) : Int) ≤ l - (x.Name.length : Int) - ((wtL wtS x.Acts : Nat) : Int) - ((wtL MFile.wt x.Ins : Nat) : Int) - ((wtL MEnv.wt x.Envs : Nat) : Int)
          · rw [if_pos g4, szI_pos g4]
            first | done | rw [szI_pos (by omega)]
            first | done | (congr 5 <;> omega)
          · rw [if_neg g4, szI_neg (by omega)]
        · rw [if_neg g3, szI_neg (by omega)]
      · rw [if_neg g2, szI_neg (by omega)]
    · rw [if_neg g1, szI_neg (by omega)]
  · rw [decide_eq_true (by omega), cond_true, szI_neg (by omega)]
theorem f_laws_toFile (x : MFile) (hx : x.Bd 1048576) : Fresh run_laws_toFile true 1 [.agg [Cell.str (bs x.Path), Cell.str (bs x.Text)]] [.agg x.tr] := by
  obtain ⟨b0, b1⟩ := hx
  have hs : Sp (Rep (([] : List Entry)) true true 1) ([] : List Nat) [Cell.str (bs x.Path), Cell.str (bs x.Text)] x.tr := (Sp.append (Sp.leafD (H := ([] : List Entry)) (w := true) (q := true) (n := 1) (by omega) (.string (bs x.Path))) (Sp.append (Sp.leafD (H := ([] : List Entry)) (w := true) (q := true) (n := 1) (by omega) (.string (bs x.Text))) (Sp.nil)) :)
  have hw : Mine 0 (([] : List Entry)).length ([] : List Nat) := Mine.nil (Nat.zero_le _)
  refine Fresh.agg (run_laws_toFile_of 0 ?_) hs hw.nd
  simp only [laws_toFile, callS_canon, callL_canon, Option.map_some, Option.bind_some, shape_one, shape_agg, shape_nil, cellsAt_0, cellsAt_1, cellsAt_2, cellsAt_3, cells_one, cells_agg, cB_zero, cI_zero, cS_zero, cC_zero, cB_cons, cI_cons, cS_cons, cC_cons, cond_true, cond_false, List.length_cons, List.length_nil, beq_self_eq_true, Bool.and_true, Bool.true_and, lenC_encL, lenC_lst, deref_ref, emptyK_nil, bs_size, bs_toList]
theorem f_laws_toFileS (xs : List MFile) (hb : bdL 1048576 (MFile.Bd 1048576) xs) : Fresh run_laws_toFileS true 2 [.one (encL 2 MFile.enc xs)] [.one (trL 2 MFile.tr xs)] := by
  have hxl : xs.length ≤ 1048576 := hb.1
  have hM := maxLen_eq
  refine fill_fresh (sz := 2) (n := 1) (z := [Cell.str (bs []), Cell.str (bs [])]) rfl (by intro c hc; simp only [List.mem_cons, List.not_mem_nil, or_false] at hc; rcases hc with rfl | rfl <;> rfl) MFile.tr xs (fun m i H => laws_toFileS_l0 (xs.length + 1 + 1) (xs.length + 1 + 1) m (encL 2 MFile.enc xs) (.vs 0 2 0 xs.length 0) i H) ?_ ?_ (xs.length + 1 + 1) (by omega) ?_
  · intro m i x H hi hm hx hg
    obtain ⟨cs, E, ids, e0, r0, w0, g0⟩ := freshA (f_laws_toFile x (hb.2 x hm)) H (mapO_canon [.agg [Cell.str (bs x.Path), Cell.str (bs x.Text)]] _ _)
    obtain rfl := MFile.open r0
    refine ⟨_, E, ids, ?_, rfl, r0, w0, g0 hg⟩
    simp only [laws_toFileS_l0, lenC_encL, Option.bind_some, idxA_encL, hx, MFile.enc, e0, callS_canon, callL_canon, Option.map_some, Option.bind_some, shape_one, shape_agg, shape_nil, cellsAt_0, cellsAt_1, cellsAt_2, cellsAt_3, cells_one, cells_agg, cB_zero, cI_zero, cS_zero, cC_zero, cB_cons, cI_cons, cS_cons, cC_cons, cond_true, cond_false, List.length_cons, List.length_nil, beq_self_eq_true, Bool.and_true, Bool.true_and, lenC_encL, lenC_lst, deref_ref, emptyK_nil, bs_size, bs_toList]
    rw [decide_eq_true (by omega), cond_true, idxA_vs _ _ _ _ _ hi, wrap_succ (by omega)]
    simp only [Option.bind_some]
  · intro m H
    simp only [laws_toFileS_l0, lenC_encL, Option.bind_some]
    rw [decide_eq_false (by omega), cond_false]
  · intro r hr
    refine run_laws_toFileS_of (xs.length + 1) ?_
    simp only [laws_toFileS, lenC_encL, Option.bind_some]
    rw [if_pos (by unfold bound; refine ⟨?_, ?_, ?_, ?_⟩ <;> omega)]
    exact hr
theorem f_laws_toStringS (xs : List Str) (hb : bdL 1048576 (bdS 1048576) xs) : Fresh run_laws_toStringS true 2 [.one (encL 1 eStr xs)] [.one (trL 1 trStr xs)] := by
  have hxl : xs.length ≤ 1048576 := hb.1
  have hM := maxLen_eq
  refine fill_fresh (sz := 1) (n := 1) (z := [Cell.str (bs [])]) rfl (by intro c hc; simp only [List.mem_cons, List.not_mem_nil, or_false] at hc; rcases hc with rfl <;> rfl) trStr xs (fun m i H => laws_toStringS_l0 (xs.length + 1 + 1) (xs.length + 1 + 1) m (encL 1 eStr xs) (.vs 0 1 0 xs.length 0) i H) ?_ ?_ (xs.length + 1 + 1) (by omega) ?_
  · intro m i x H hi hm hx hg
    refine ⟨[.sc (.string (bs x))], [], [], ?_, rfl, Sp.leaf1 _, Mine.nil (by simp), by rw [List.append_nil]; exact hg⟩
    rw [List.append_nil]
    simp only [laws_toStringS_l0, lenC_encL, Option.bind_some, idxA_encL, hx, Option.map_some, deref_ref, eStr, cS_zero]
    rw [decide_eq_true (by omega), cond_true, idxA_vs _ _ _ _ _ hi, wrap_succ (by omega)]
    rfl
  · intro m H
    simp only [laws_toStringS_l0, lenC_encL, Option.bind_some]
    rw [decide_eq_false (by omega), cond_false]
  · intro r hr
    refine run_laws_toStringS_of (xs.length + 1) ?_
    simp only [laws_toStringS, lenC_encL, Option.bind_some]
    rw [if_pos (by unfold bound; refine ⟨?_, ?_, ?_, ?_⟩ <;> omega)]
    exact hr
theorem f_laws_toEnv (x : MEnv) (hx : x.Bd 1048576) : Fresh run_laws_toEnv true 1 [.agg [Cell.str (bs x.Name), Cell.str (bs x.Val)]] [.agg x.tr] := by
  obtain ⟨b0, b1⟩ := hx
  have hs : Sp (Rep (([] : List Entry)) true true 1) ([] : List Nat) [Cell.str (bs x.Name), Cell.str (bs x.Val)] x.tr := (Sp.append (Sp.leafD (H := ([] : List Entry)) (w := true) (q := true) (n := 1) (by omega) (.string (bs x.Name))) (Sp.append (Sp.leafD (H := ([] : List Entry)) (w := true) (q := true) (n := 1) (by omega) (.string (bs x.Val))) (Sp.nil)) :)
  have hw : Mine 0 (([] : List Entry)).length ([] : List Nat) := Mine.nil (Nat.zero_le _)
  refine Fresh.agg (run_laws_toEnv_of 0 ?_) hs hw.nd
  simp only [laws_toEnv, callS_canon, callL_canon, Option.map_some, Option.bind_some, shape_one, shape_agg, shape_nil, cellsAt_0, cellsAt_1, cellsAt_2, cellsAt_3, cells_one, cells_agg, cB_zero, cI_zero, cS_zero, cC_zero, cB_cons, cI_cons, cS_cons, cC_cons, cond_true, cond_false, List.length_cons, List.length_nil, beq_self_eq_true, Bool.and_true, Bool.true_and, lenC_encL, lenC_lst, deref_ref, emptyK_nil, bs_size, bs_toList]
theorem f_laws_toEnvS (xs : List MEnv) (hb : bdL 1048576 (MEnv.Bd 1048576) xs) : Fresh run_laws_toEnvS true 2 [.one (encL 2 MEnv.enc xs)] [.one (trL 2 MEnv.tr xs)] := by
  have hxl : xs.length ≤ 1048576 := hb.1
  have hM := maxLen_eq
  refine fill_fresh (sz := 2) (n := 1) (z := [Cell.str (bs []), Cell.str (bs [])]) rfl (by intro c hc; simp only [List.mem_cons, List.not_mem_nil, or_false] at hc; rcases hc with rfl | rfl <;> rfl) MEnv.tr xs (fun m i H => laws_toEnvS_l0 (xs.length + 1 + 1) (xs.length + 1 + 1) m (encL 2 MEnv.enc xs) (.vs 0 2 0 xs.length 0) i H) ?_ ?_ (xs.length + 1 + 1) (by omega) ?_
  · intro m i x H hi hm hx hg
    obtain ⟨cs, E, ids, e0, r0, w0, g0⟩ := freshA (f_laws_toEnv x (hb.2 x hm)) H (mapO_canon [.agg [Cell.str (bs x.Name), Cell.str (bs x.Val)]] _ _)
    obtain rfl := MEnv.open r0
    refine ⟨_, E, ids, ?_, rfl, r0, w0, g0 hg⟩
    simp only [laws_toEnvS_l0, lenC_encL, Option.bind_some, idxA_encL, hx, MEnv.enc, e0, callS_canon, callL_canon, Option.map_some, Option.bind_some, shape_one, shape_agg, shape_nil, cellsAt_0, cellsAt_1, cellsAt_2, cellsAt_3, cells_one, cells_agg, cB_zero, cI_zero, cS_zero, cC_zero, cB_cons, cI_cons, cS_cons, cC_cons, cond_true, cond_false, List.length_cons, List.length_nil, beq_self_eq_true, Bool.and_true, Bool.true_and, lenC_encL, lenC_lst, deref_ref, emptyK_nil, bs_size, bs_toList]
    rw [decide_eq_true (by omega), cond_true, idxA_vs _ _ _ _ _ hi, wrap_succ (by omega)]
    simp only [Option.bind_some]
  · intro m H
    simp only [laws_toEnvS_l0, lenC_encL, Option.bind_some]
    rw [decide_eq_false (by omega), cond_false]
  · intro r hr
    refine run_laws_toEnvS_of (xs.length + 1) ?_
    simp only [laws_toEnvS, lenC_encL, Option.bind_some]
    rw [if_pos (by unfold bound; refine ⟨?_, ?_, ?_, ?_⟩ <;> omega)]
    exact hr
theorem f_laws_toMade (x : MMade) (hx : x.Bd 1048576) : Fresh run_laws_toMade true 2 [.agg [Cell.str (bs x.Task), encL 2 MFile.enc x.Outs, Cell.str (bs x.Log)]] [.agg x.tr] := by
  obtain ⟨b0, b1, b2⟩ := hx
  obtain ⟨c1, E1, i1, e1, r1, w1, g1⟩ := freshO (f_laws_toFileS (x.Outs) b1) (([] : List Entry)) (mapO_canon [.one (encL 2 MFile.enc x.Outs)] _ _)
  have hs : Sp (Rep (([] : List Entry) ++ E1) true true 2) (i1 ++ ([] : List Nat)) [Cell.str (bs x.Task), c1, Cell.str (bs x.Log)] x.tr := (Sp.append (Sp.leafD (H := ([] : List Entry) ++ E1) (w := true) (q := true) (n := 2) (by omega) (.string (bs x.Task))) (Sp.append (Sp.one1 (Rep.more (m := 2) r1 (by omega))) (Sp.append (Sp.leafD (H := ([] : List Entry) ++ E1) (w := true) (q := true) (n := 2) (by omega) (.string (bs x.Log))) (Sp.nil))) :)
  have hw : Mine 0 (([] : List Entry) ++ E1).length (i1 ++ ([] : List Nat)) := Mine.app w1 (Mine.nil (Nat.le_refl _))
  refine Fresh.agg (run_laws_toMade_of 0 ?_) hs hw.nd
  simp only [laws_toMade, e1, callS_canon, callL_canon, Option.map_some, Option.bind_some, shape_one, shape_agg, shape_nil, cellsAt_0, cellsAt_1, cellsAt_2, cellsAt_3, cells_one, cells_agg, cB_zero, cI_zero, cS_zero, cC_zero, cB_cons, cI_cons, cS_cons, cC_cons, cond_true, cond_false, List.length_cons, List.length_nil, beq_self_eq_true, Bool.and_true, Bool.true_and, lenC_encL, lenC_lst, deref_ref, emptyK_nil, bs_size, bs_toList]
theorem f_laws_toMadeS (xs : List MMade) (hb : bdL 1048576 (MMade.Bd 1048576) xs) : Fresh run_laws_toMadeS true 3 [.one (encL 3 MMade.enc xs)] [.one (trL 3 MMade.tr xs)] := by
  have hxl : xs.length ≤ 1048576 := hb.1
  have hM := maxLen_eq
  refine fill_fresh (sz := 3) (n := 2) (z := [Cell.str (bs []), .lst true 2 [], Cell.str (bs [])]) rfl (by intro c hc; simp only [List.mem_cons, List.not_mem_nil, or_false] at hc; rcases hc with rfl | rfl | rfl <;> rfl) MMade.tr xs (fun m i H => laws_toMadeS_l0 (xs.length + 1 + 1) (xs.length + 1 + 1) m (encL 3 MMade.enc xs) (.vs 0 3 0 xs.length 0) i H) ?_ ?_ (xs.length + 1 + 1) (by omega) ?_
  · intro m i x H hi hm hx hg
    obtain ⟨cs, E, ids, e0, r0, w0, g0⟩ := freshA (f_laws_toMade x (hb.2 x hm)) H (mapO_canon [.agg [Cell.str (bs x.Task), encL 2 MFile.enc x.Outs, Cell.str (bs x.Log)]] _ _)
    obtain ⟨c1, rfl⟩ := MMade.open r0
    refine ⟨_, E, ids, ?_, rfl, r0, w0, g0 hg⟩
    simp only [laws_toMadeS_l0, lenC_encL, Option.bind_some, idxA_encL, hx, MMade.enc, e0, callS_canon, callL_canon, Option.map_some, Option.bind_some, shape_one, shape_agg, shape_nil, cellsAt_0, cellsAt_1, cellsAt_2, cellsAt_3, cells_one, cells_agg, cB_zero, cI_zero, cS_zero, cC_zero, cB_cons, cI_cons, cS_cons, cC_cons, cond_true, cond_false, List.length_cons, List.length_nil, beq_self_eq_true, Bool.and_true, Bool.true_and, lenC_encL, lenC_lst, deref_ref, emptyK_nil, bs_size, bs_toList]
    rw [decide_eq_true (by omega), cond_true, idxA_vs _ _ _ _ _ hi, wrap_succ (by omega)]
    simp only [Option.bind_some]
  · intro m H
    simp only [laws_toMadeS_l0, lenC_encL, Option.bind_some]
    rw [decide_eq_false (by omega), cond_false]
  · intro r hr
    refine run_laws_toMadeS_of (xs.length + 1) ?_
    simp only [laws_toMadeS, lenC_encL, Option.bind_some]
    rw [if_pos (by unfold bound; refine ⟨?_, ?_, ?_, ?_⟩ <;> omega)]
    exact hr
theorem f_laws_toJob (x : MJob) (hx : x.Bd 1048576) : Fresh run_laws_toJob true 3 [.agg [Cell.str (bs x.Name), encL 1 eStr x.Acts, encL 2 MFile.enc x.Ins, encL 2 MEnv.enc x.Envs, encL 3 MMade.enc x.Deps]] [.agg x.tr] := by
  obtain ⟨b0, b1, b2, b3, b4⟩ := hx
  obtain ⟨c1, E1, i1, e1, r1, w1, g1⟩ := freshO (f_laws_toStringS (x.Acts) b1) (([] : List Entry)) (mapO_canon [.one (encL 1 eStr x.Acts)] _ _)
  obtain ⟨c2, E2, i2, e2, r2, w2, g2⟩ := freshO (f_laws_toFileS (x.Ins) b2) (([] : List Entry) ++ E1) (mapO_canon [.one (encL 2 MFile.enc x.Ins)] _ _)
  obtain ⟨c3, E3, i3, e3, r3, w3, g3⟩ := freshO (f_laws_toEnvS (x.Envs) b3) (([] : List Entry) ++ E1 ++ E2) (mapO_canon [.one (encL 2 MEnv.enc x.Envs)] _ _)
  obtain ⟨c4, E4, i4, e4, r4, w4, g4⟩ := freshO (f_laws_toMadeS (x.Deps) b4) (([] : List Entry) ++ E1 ++ E2 ++ E3) (mapO_canon [.one (encL 3 MMade.enc x.Deps)] _ _)
  have hs : Sp (Rep (([] : List Entry) ++ E1 ++ E2 ++ E3 ++ E4) true true 3) (i1 ++ (i2 ++ (i3 ++ (i4 ++ ([] : List Nat))))) [Cell.str (bs x.Name), c1, c2, c3, c4] x.tr := (Sp.append (Sp.leafD (H := ([] : List Entry) ++ E1 ++ E2 ++ E3 ++ E4) (w := true) (q := true) (n := 3) (by omega) (.string (bs x.Name))) (Sp.append (Sp.one1 (Rep.more (m := 3) (Rep.app E4 (Rep.app E3 (Rep.app E2 r1))) (by omega))) (Sp.append (Sp.one1 (Rep.more (m := 3) (Rep.app E4 (Rep.app E3 r2)) (by omega))) (Sp.append (Sp.one1 (Rep.more (m := 3) (Rep.app E4 r3) (by omega))) (Sp.append (Sp.one1 (Rep.more (m := 3) r4 (by omega))) (Sp.nil))))) :)
  have hw : Mine 0 (([] : List Entry) ++ E1 ++ E2 ++ E3 ++ E4).length (i1 ++ (i2 ++ (i3 ++ (i4 ++ ([] : List Nat))))) := Mine.app w1 (Mine.app w2 (Mine.app w3 (Mine.app w4 (Mine.nil (Nat.le_refl _)))))
  refine Fresh.agg (run_laws_toJob_of 0 ?_) hs hw.nd
  simp only [laws_toJob, e1, e2, e3, e4, callS_canon, callL_canon, Option.map_some, Option.bind_some, shape_one, shape_agg, shape_nil, cellsAt_0, cellsAt_1, cellsAt_2, cellsAt_3, cells_one, cells_agg, cB_zero, cI_zero, cS_zero, cC_zero, cB_cons, cI_cons, cS_cons, cC_cons, cond_true, cond_false, List.length_cons, List.length_nil, beq_self_eq_true, Bool.and_true, Bool.true_and, lenC_encL, lenC_lst, deref_ref, emptyK_nil, bs_size, bs_toList]
theorem c_laws_eqFile (x y : MFile) (hx : x.Bd 1048576) (hy : y.Bd 1048576) : out run_laws_eqFile [.agg [Cell.str (bs x.Path), Cell.str (bs x.Text)], .agg [Cell.str (bs y.Path), Cell.str (bs y.Text)]] = some [.one (Cell.bool (decide (x = y)))] := by
  obtain ⟨b0, b1⟩ := hx
  obtain ⟨d0, d1⟩ := hy
  refine out_of (H := []) (run_laws_eqFile_of 0 ?_)
  simp only [laws_eqFile, callS_canon, callL_canon, Option.map_some, Option.bind_some, shape_one, shape_agg, shape_nil, cellsAt_0, cellsAt_1, cellsAt_2, cellsAt_3, cells_one, cells_agg, cB_zero, cI_zero, cS_zero, cC_zero, cB_cons, cI_cons, cS_cons, cC_cons, cond_true, cond_false, List.length_cons, List.length_nil, beq_self_eq_true, Bool.and_true, Bool.true_and, lenC_encL, lenC_lst, deref_ref, emptyK_nil, bs_size, bs_toList, condF, condNe]
  congr 5
  rw [Bool.eq_iff_iff]
  cases x; cases y
  simp [MFile.mk.injEq]
theorem c_laws_eqFileS (xs ys : List MFile) (hx : bdL 1048576 (MFile.Bd 1048576) xs) (hy : bdL 1048576 (MFile.Bd 1048576) ys) : out run_laws_eqFileS [.one (encL 2 MFile.enc xs), .one (encL 2 MFile.enc ys)] = some [.one (Cell.bool (decide (xs = ys)))] := by
  have hxl : xs.length ≤ 1048576 := hx.1
  have hM := maxLen_eq
  have loop : xs.length = ys.length → ∀ (us vs : List MFile) (i n : Nat), xs.drop i = us → ys.drop i = vs → us.length < n → ∀ k m, laws_eqFileS_l0 k m n (encL 2 MFile.enc xs) (encL 2 MFile.enc ys) i = some ([.one (Cell.bool (decide (us = vs)))], []) := by
    intro hlen us
    induction us with
    | nil =>
      intro vs i n hd he hn k m
      obtain ⟨n, rfl⟩ : ∃ j, n = j + 1 := ⟨n - 1, by omega⟩
      have := drop_nil hd
      have hv : vs = [] := by rw [← he]; exact List.drop_eq_nil_of_le (by omega)
      subst hv
      simp only [laws_eqFileS_l0, lenC_encL, Option.bind_some]
      rw [decide_eq_false (by omega)]
      simp
    | cons x us ih =>
      intro vs i n hd he hn k m
      obtain ⟨n, rfl⟩ : ∃ j, n = j + 1 := ⟨n - 1, by omega⟩
      obtain ⟨hlt, hgx, hd'⟩ := drop_cons hd
      cases vs with
      | nil => have := drop_nil he; omega
      | cons y vs =>
      obtain ⟨hlt', hgy, he'⟩ := drop_cons he
      simp only [List.length_cons] at hn
      have hbx := hx.2 x (List.mem_of_getElem? hgx)
      have hby := hy.2 y (List.mem_of_getElem? hgy)
      simp only [laws_eqFileS_l0, idxA_encL, hgx, hgy, MFile.enc, c_laws_eqFile _ _ hbx hby, callS_canon, callL_canon, Option.map_some, Option.bind_some, shape_one, shape_agg, shape_nil, cellsAt_0, cellsAt_1, cellsAt_2, cellsAt_3, cells_one, cells_agg, cB_zero, cI_zero, cS_zero, cC_zero, cB_cons, cI_cons, cS_cons, cC_cons, cond_true, cond_false, List.length_cons, List.length_nil, beq_self_eq_true, Bool.and_true, Bool.true_and, lenC_encL, lenC_lst, deref_ref, emptyK_nil, bs_size, bs_toList]
      rw [decide_eq_true (by omega)]
      simp only [callS_canon, callL_canon, Option.map_some, Option.bind_some, shape_one, shape_agg, shape_nil, cellsAt_0, cellsAt_1, cellsAt_2, cellsAt_3, cells_one, cells_agg, cB_zero, cI_zero, cS_zero, cC_zero, cB_cons, cI_cons, cS_cons, cC_cons, cond_true, cond_false, List.length_cons, List.length_nil, beq_self_eq_true, Bool.and_true, Bool.true_and, lenC_encL, lenC_lst, deref_ref, emptyK_nil, bs_size, bs_toList]
      rw [wrap_succ (by omega), ih vs (i + 1) n hd' he' (by omega), condF]
      congr 5
      rw [Bool.eq_iff_iff]
      simp
  refine out_of (H := []) (run_laws_eqFileS_of (xs.length + 1) ?_)
  simp only [laws_eqFileS, lenC_encL, Option.bind_some]
  by_cases h : xs.length = ys.length
  · rw [show (((xs.length : Nat) : Int) != (ys.length : Int)) = false by simp [h], cond_false]
    exact loop h xs ys 0 _ rfl rfl (by omega) _ _
  · rw [show (((xs.length : Nat) : Int) != (ys.length : Int)) = true by simp only [bne_iff_ne, ne_eq]; omega, cond_true]
    have : xs ≠ ys := fun e => h (by rw [e])
    simp [this]
theorem c_laws_eqStringS (xs ys : List Str) (hx : bdL 1048576 (bdS 1048576) xs) (hy : bdL 1048576 (bdS 1048576) ys) : out run_laws_eqStringS [.one (encL 1 eStr xs), .one (encL 1 eStr ys)] = some [.one (Cell.bool (decide (xs = ys)))] := by
  have hxl : xs.length ≤ 1048576 := hx.1
  have hM := maxLen_eq
  have loop : xs.length = ys.length → ∀ (us vs : List Str) (i n : Nat), xs.drop i = us → ys.drop i = vs → us.length < n → ∀ k m, laws_eqStringS_l0 k m n (encL 1 eStr xs) (encL 1 eStr ys) i = some ([.one (Cell.bool (decide (us = vs)))], []) := by
    intro hlen us
    induction us with
    | nil =>
      intro vs i n hd he hn k m
      obtain ⟨n, rfl⟩ : ∃ j, n = j + 1 := ⟨n - 1, by omega⟩
      have := drop_nil hd
      have hv : vs = [] := by rw [← he]; exact List.drop_eq_nil_of_le (by omega)
      subst hv
      simp only [laws_eqStringS_l0, lenC_encL, Option.bind_some]
      rw [decide_eq_false (by omega)]
      simp
    | cons x us ih =>
      intro vs i n hd he hn k m
      obtain ⟨n, rfl⟩ : ∃ j, n = j + 1 := ⟨n - 1, by omega⟩
      obtain ⟨hlt, hgx, hd'⟩ := drop_cons hd
      cases vs with
      | nil => have := drop_nil he; omega
      | cons y vs =>
      obtain ⟨hlt', hgy, he'⟩ := drop_cons he
      simp only [List.length_cons] at hn
      simp only [laws_eqStringS_l0, idxA_encL, hgx, hgy, eStr, callS_canon, callL_canon, Option.map_some, Option.bind_some, shape_one, shape_agg, shape_nil, cellsAt_0, cellsAt_1, cellsAt_2, cellsAt_3, cells_one, cells_agg, cB_zero, cI_zero, cS_zero, cC_zero, cB_cons, cI_cons, cS_cons, cC_cons, cond_true, cond_false, List.length_cons, List.length_nil, beq_self_eq_true, Bool.and_true, Bool.true_and, lenC_encL, lenC_lst, deref_ref, emptyK_nil, bs_size, bs_toList]
      rw [decide_eq_true (by omega)]
      simp only [callS_canon, callL_canon, Option.map_some, Option.bind_some, shape_one, shape_agg, shape_nil, cellsAt_0, cellsAt_1, cellsAt_2, cellsAt_3, cells_one, cells_agg, cB_zero, cI_zero, cS_zero, cC_zero, cB_cons, cI_cons, cS_cons, cC_cons, cond_true, cond_false, List.length_cons, List.length_nil, beq_self_eq_true, Bool.and_true, Bool.true_and, lenC_encL, lenC_lst, deref_ref, emptyK_nil, bs_size, bs_toList]
      rw [wrap_succ (by omega), ih vs (i + 1) n hd' he' (by omega), condF]
      congr 5
      rw [Bool.eq_iff_iff]
      simp
  refine out_of (H := []) (run_laws_eqStringS_of (xs.length + 1) ?_)
  simp only [laws_eqStringS, lenC_encL, Option.bind_some]
  by_cases h : xs.length = ys.length
  · rw [show (((xs.length : Nat) : Int) != (ys.length : Int)) = false by simp [h], cond_false]
    exact loop h xs ys 0 _ rfl rfl (by omega) _ _
  · rw [show (((xs.length : Nat) : Int) != (ys.length : Int)) = true by simp only [bne_iff_ne, ne_eq]; omega, cond_true]
    have : xs ≠ ys := fun e => h (by rw [e])
    simp [this]
theorem c_laws_eqEnv (x y : MEnv) (hx : x.Bd 1048576) (hy : y.Bd 1048576) : out run_laws_eqEnv [.agg [Cell.str (bs x.Name), Cell.str (bs x.Val)], .agg [Cell.str (bs y.Name), Cell.str (bs y.Val)]] = some [.one (Cell.bool (decide (x = y)))] := by
  obtain ⟨b0, b1⟩ := hx
  obtain ⟨d0, d1⟩ := hy
  refine out_of (H := []) (run_laws_eqEnv_of 0 ?_)
  simp only [laws_eqEnv, callS_canon, callL_canon, Option.map_some, Option.bind_some, shape_one, shape_agg, shape_nil, cellsAt_0, cellsAt_1, cellsAt_2, cellsAt_3, cells_one, cells_agg, cB_zero, cI_zero, cS_zero, cC_zero, cB_cons, cI_cons, cS_cons, cC_cons, cond_true, cond_false, List.length_cons, List.length_nil, beq_self_eq_true, Bool.and_true, Bool.true_and, lenC_encL, lenC_lst, deref_ref, emptyK_nil, bs_size, bs_toList, condF, condNe]
  congr 5
  rw [Bool.eq_iff_iff]
  cases x; cases y
  simp [MEnv.mk.injEq]
theorem c_laws_eqEnvS (xs ys : List MEnv) (hx : bdL 1048576 (MEnv.Bd 1048576) xs) (hy : bdL 1048576 (MEnv.Bd 1048576) ys) : out run_laws_eqEnvS [.one (encL 2 MEnv.enc xs), .one (encL 2 MEnv.enc ys)] = some [.one (Cell.bool (decide (xs = ys)))] := by
  have hxl : xs.length ≤ 1048576 := hx.1
  have hM := maxLen_eq
  have loop : xs.length = ys.length → ∀ (us vs : List MEnv) (i n : Nat), xs.drop i = us → ys.drop i = vs → us.length < n → ∀ k m, laws_eqEnvS_l0 k m n (encL 2 MEnv.enc xs) (encL 2 MEnv.enc ys) i = some ([.one (Cell.bool (decide (us = vs)))], []) := by
    intro hlen us
    induction us with
    | nil =>
      intro vs i n hd he hn k m
      obtain ⟨n, rfl⟩ : ∃ j, n = j + 1 := ⟨n - 1, by omega⟩
      have := drop_nil hd
      have hv : vs = [] := by rw [← he]; exact List.drop_eq_nil_of_le (by omega)
      subst hv
      simp only [laws_eqEnvS_l0, lenC_encL, Option.bind_some]
      rw [decide_eq_false (by omega)]
      simp
    | cons x us ih =>
      intro vs i n hd he hn k m
      obtain ⟨n, rfl⟩ : ∃ j, n = j + 1 := ⟨n - 1, by omega⟩
      obtain ⟨hlt, hgx, hd'⟩ := drop_cons hd
      cases vs with
      | nil => have := drop_nil he; omega
      | cons y vs =>
      obtain ⟨hlt', hgy, he'⟩ := drop_cons he
      simp only [List.length_cons] at hn
      have hbx := hx.2 x (List.mem_of_getElem? hgx)
      have hby := hy.2 y (List.mem_of_getElem? hgy)
      simp only [laws_eqEnvS_l0, idxA_encL, hgx, hgy, MEnv.enc, c_laws_eqEnv _ _ hbx hby, callS_canon, callL_canon, Option.map_some, Option.bind_some, shape_one, shape_agg, shape_nil, cellsAt_0, cellsAt_1, cellsAt_2, cellsAt_3, cells_one, cells_agg, cB_zero, cI_zero, cS_zero, cC_zero, cB_cons, cI_cons, cS_cons, cC_cons, cond_true, cond_false, List.length_cons, List.length_nil, beq_self_eq_true, Bool.and_true, Bool.true_and, lenC_encL, lenC_lst, deref_ref, emptyK_nil, bs_size, bs_toList]
      rw [decide_eq_true (by omega)]
      simp only [callS_canon, callL_canon, Option.map_some, Option.bind_some, shape_one, shape_agg, shape_nil, cellsAt_0, cellsAt_1, cellsAt_2, cellsAt_3, cells_one, cells_agg, cB_zero, cI_zero, cS_zero, cC_zero, cB_cons, cI_cons, cS_cons, cC_cons, cond_true, cond_false, List.length_cons, List.length_nil, beq_self_eq_true, Bool.and_true, Bool.true_and, lenC_encL, lenC_lst, deref_ref, emptyK_nil, bs_size, bs_toList]
      rw [wrap_succ (by omega), ih vs (i + 1) n hd' he' (by omega), condF]
      congr 5
      rw [Bool.eq_iff_iff]
      simp
  refine out_of (H := []) (run_laws_eqEnvS_of (xs.length + 1) ?_)
  simp only [laws_eqEnvS, lenC_encL, Option.bind_some]
  by_cases h : xs.length = ys.length
  · rw [show (((xs.length : Nat) : Int) != (ys.length : Int)) = false by simp [h], cond_false]
    exact loop h xs ys 0 _ rfl rfl (by omega) _ _
  · rw [show (((xs.length : Nat) : Int) != (ys.length : Int)) = true by simp only [bne_iff_ne, ne_eq]; omega, cond_true]
    have : xs ≠ ys := fun e => h (by rw [e])
    simp [this]
theorem c_laws_eqMade (x y : MMade) (hx : x.Bd 1048576) (hy : y.Bd 1048576) : out run_laws_eqMade [.agg [Cell.str (bs x.Task), encL 2 MFile.enc x.Outs, Cell.str (bs x.Log)], .agg [Cell.str (bs y.Task), encL 2 MFile.enc y.Outs, Cell.str (bs y.Log)]] = some [.one (Cell.bool (decide (x = y)))] := by
  obtain ⟨b0, b1, b2⟩ := hx
  obtain ⟨d0, d1, d2⟩ := hy
  refine out_of (H := []) (run_laws_eqMade_of 0 ?_)
  simp only [laws_eqMade, c_laws_eqFileS _ _ b1 d1, callS_canon, callL_canon, Option.map_some, Option.bind_some, shape_one, shape_agg, shape_nil, cellsAt_0, cellsAt_1, cellsAt_2, cellsAt_3, cells_one, cells_agg, cB_zero, cI_zero, cS_zero, cC_zero, cB_cons, cI_cons, cS_cons, cC_cons, cond_true, cond_false, List.length_cons, List.length_nil, beq_self_eq_true, Bool.and_true, Bool.true_and, lenC_encL, lenC_lst, deref_ref, emptyK_nil, bs_size, bs_toList, condF, condNe]
  congr 5
  rw [Bool.eq_iff_iff]
  cases x; cases y
  simp [MMade.mk.injEq]
theorem c_laws_eqMadeS (xs ys : List MMade) (hx : bdL 1048576 (MMade.Bd 1048576) xs) (hy : bdL 1048576 (MMade.Bd 1048576) ys) : out run_laws_eqMadeS [.one (encL 3 MMade.enc xs), .one (encL 3 MMade.enc ys)] = some [.one (Cell.bool (decide (xs = ys)))] := by
  have hxl : xs.length ≤ 1048576 := hx.1
  have hM := maxLen_eq
  have loop : xs.length = ys.length → ∀ (us vs : List MMade) (i n : Nat), xs.drop i = us → ys.drop i = vs → us.length < n → ∀ k m, laws_eqMadeS_l0 k m n (encL 3 MMade.enc xs) (encL 3 MMade.enc ys) i = some ([.one (Cell.bool (decide (us = vs)))], []) := by
    intro hlen us
    induction us with
    | nil =>
      intro vs i n hd he hn k m
      obtain ⟨n, rfl⟩ : ∃ j, n = j + 1 := ⟨n - 1, by omega⟩
      have := drop_nil hd
      have hv : vs = [] := by rw [← he]; exact List.drop_eq_nil_of_le (by omega)
      subst hv
      simp only [laws_eqMadeS_l0, lenC_encL, Option.bind_some]
      rw [decide_eq_false (by omega)]
      simp
    | cons x us ih =>
      intro vs i n hd he hn k m
      obtain ⟨n, rfl⟩ : ∃ j, n = j + 1 := ⟨n - 1, by omega⟩
      obtain ⟨hlt, hgx, hd'⟩ := drop_cons hd
      cases vs with
      | nil => have := drop_nil he; omega
      | cons y vs =>
      obtain ⟨hlt', hgy, he'⟩ := drop_cons he
      simp only [List.length_cons] at hn
      have hbx := hx.2 x (List.mem_of_getElem? hgx)
      have hby := hy.2 y (List.mem_of_getElem? hgy)
      simp only [laws_eqMadeS_l0, idxA_encL, hgx, hgy, MMade.enc, c_laws_eqMade _ _ hbx hby, callS_canon, callL_canon, Option.map_some, Option.bind_some, shape_one, shape_agg, shape_nil, cellsAt_0, cellsAt_1, cellsAt_2, cellsAt_3, cells_one, cells_agg, cB_zero, cI_zero, cS_zero, cC_zero, cB_cons, cI_cons, cS_cons, cC_cons, cond_true, cond_false, List.length_cons, List.length_nil, beq_self_eq_true, Bool.and_true, Bool.true_and, lenC_encL, lenC_lst, deref_ref, emptyK_nil, bs_size, bs_toList]
      rw [decide_eq_true (by omega)]
      simp only [callS_canon, callL_canon, Option.map_some, Option.bind_some, shape_one, shape_agg, shape_nil, cellsAt_0, cellsAt_1, cellsAt_2, cellsAt_3, cells_one, cells_agg, cB_zero, cI_zero, cS_zero, cC_zero, cB_cons, cI_cons, cS_cons, cC_cons, cond_true, cond_false, List.length_cons, List.length_nil, beq_self_eq_true, Bool.and_true, Bool.true_and, lenC_encL, lenC_lst, deref_ref, emptyK_nil, bs_size, bs_toList]
      rw [wrap_succ (by omega), ih vs (i + 1) n hd' he' (by omega), condF]
      congr 5
      rw [Bool.eq_iff_iff]
      simp
  refine out_of (H := []) (run_laws_eqMadeS_of (xs.length + 1) ?_)
  simp only [laws_eqMadeS, lenC_encL, Option.bind_some]
  by_cases h : xs.length = ys.length
  · rw [show (((xs.length : Nat) : Int) != (ys.length : Int)) = false by simp [h], cond_false]
    exact loop h xs ys 0 _ rfl rfl (by omega) _ _
  · rw [show (((xs.length : Nat) : Int) != (ys.length : Int)) = true by simp only [bne_iff_ne, ne_eq]; omega, cond_true]
    have : xs ≠ ys := fun e => h (by rw [e])
    simp [this]
theorem c_laws_eqJob (x y : MJob) (hx : x.Bd 1048576) (hy : y.Bd 1048576) : out run_laws_eqJob [.agg [Cell.str (bs x.Name), encL 1 eStr x.Acts, encL 2 MFile.enc x.Ins, encL 2 MEnv.enc x.Envs, encL 3 MMade.enc x.Deps], .agg [Cell.str (bs y.Name), encL 1 eStr y.Acts, encL 2 MFile.enc y.Ins, encL 2 MEnv.enc y.Envs, encL 3 MMade.enc y.Deps]] = some [.one (Cell.bool (decide (x = y)))] := by
  obtain ⟨b0, b1, b2, b3, b4⟩ := hx
  obtain ⟨d0, d1, d2, d3, d4⟩ := hy
  refine out_of (H := []) (run_laws_eqJob_of 0 ?_)
  simp only [laws_eqJob, c_laws_eqStringS _ _ b1 d1, c_laws_eqFileS _ _ b2 d2, c_laws_eqEnvS _ _ b3 d3, c_laws_eqMadeS _ _ b4 d4, callS_canon, callL_canon, Option.map_some, Option.bind_some, shape_one, shape_agg, shape_nil, cellsAt_0, cellsAt_1, cellsAt_2, cellsAt_3, cells_one, cells_agg, cB_zero, cI_zero, cS_zero, cC_zero, cB_cons, cI_cons, cS_cons, cC_cons, cond_true, cond_false, List.length_cons, List.length_nil, beq_self_eq_true, Bool.and_true, Bool.true_and, lenC_encL, lenC_lst, deref_ref, emptyK_nil, bs_size, bs_toList, condF, condNe]
  congr 5
  rw [Bool.eq_iff_iff]
  cases x; cases y
  simp [MJob.mk.injEq]
theorem c_laws_markText (k : Nat) (hk : k ≤ markMax) : out run_laws_markText [.one (Cell.int (k : Int))] = some [.one (Cell.str (bs (markB k)))] := by
  refine out_of (H := []) (run_laws_markText_of k ?_)
  by_cases h : k = 0
  · subst h
    simp [laws_markText, markB]
  · simp only [laws_markText]
    rw [decide_eq_false (by omega), cond_false, markB, if_neg h]
    refine dig_loop (fun n i s => laws_markText_l0 (k + 1) (k + 1) n i s) (fun n s => ?_) (fun n i s hi => ?_) (k + 1) k k [] (by omega) (by omega) (by simpa using hk)
    · simp [laws_markText_l0]
    · simp only [laws_markText_l0]
      rw [decide_eq_true (by omega), cond_true]
theorem k_laws_markFileS {H : List Entry} {w : Bool} {n : Nat} {ids : List Nat} {c : Cell} (xs : List MFile) (k : Nat) (hx : bdL maxLen (MFile.Bd maxLen) xs) (h : Rep H w true n ids c (trL 2 MFile.tr xs)) (hn : ids.Nodup) (hk : k + cntL MFile.cntR xs ≤ markMax) :
    ∃ H', run_laws_markFileS [.one c, .one (Cell.int (k : Int))] H = some ([.one (Cell.int ((k + cntL MFile.cntR xs : Nat) : Int))], H') ∧ Upd ids H H' ∧ Rep H' w true n ids c (trL 2 MFile.tr (mkL MFile.mkR MFile.cntR xs k)) := by
  cases n with
  | zero => exact h.elim
  | succ n =>
  have hM := maxLen_eq
  have hlen := h.lenC
  rw [List.length_map] at hlen
  have hxl : xs.length ≤ maxLen := hx.1
  obtain ⟨H', e1, u, r⟩ := mark_loop (sz := 2) (c := c) MFile.tr MFile.mkR MFile.cntR xs (fun m k i H => laws_markFileS_l0 (xs.length + 1 + 1) (xs.length + 1 + 1) m c k i H) (by
    intro m i k x H trs hi hm hr hl hk h
    have h0 : Rep H w true (n + 1) ids c (.list 2 (trs.set i (MFile.tr x))) := by rw [set_same hr]; exact h
    have hi' : i < trs.length := by omega
    have hb := hx.2 x hm
    have hk0 := hk
    simp only [MFile.cntR] at hk
    obtain ⟨id0, p0, q0, row0, a0, d0, st0, sb0⟩ := h0.idxR hn hi'
    obtain ⟨H0, s0, u0, h1⟩ := st0 0 _ (.string (bs (markB k))) rfl
    have y0 : IntKind.i64.wrap (((k : Nat) : Int) + 1) = ((k + 1 : Nat) : Int) := wrapK (by omega)
    obtain ⟨id1, p1, q1, row1, a1, d1, st1, sb1⟩ := h1.idxR hn hi'
    obtain ⟨rfl, rfl, rfl⟩ := ptr_same a0 a1
    obtain ⟨H1, s1, u1, h2⟩ := st1 1 _ (.string (bs (markB (k + 1)))) rfl
    have y1 : IntKind.i64.wrap ((((k + 1) : Nat) : Int) + 1) = (((k + 1) + 1 : Nat) : Int) := wrapK (by omega)
    have ek : k + MFile.cntR x = ((k + 1) + 1) := (by simp only [MFile.cntR] <;> omega)
    refine ⟨H1, ?_, u0.trans (u1), h2⟩
    rw [ek]
    simp only [laws_markFileS_l0, hlen, Option.bind_some]
    rw [decide_eq_true (by omega), cond_true]
    simp only [a0, s0, c_laws_markText k (by omega), y0, a1, s1, c_laws_markText (k + 1) (by omega), y1, fldA_ptr, Nat.zero_add, Nat.reduceAdd, wrap_u8, callS_canon, callL_canon, Option.map_some, Option.bind_some, shape_one, shape_agg, shape_nil, cellsAt_0, cellsAt_1, cellsAt_2, cellsAt_3, cells_one, cells_agg, cB_zero, cI_zero, cS_zero, cC_zero, cB_cons, cI_cons, cS_cons, cC_cons, cond_true, cond_false, List.length_cons, List.length_nil, beq_self_eq_true, Bool.and_true, Bool.true_and, lenC_encL, lenC_lst, deref_ref, emptyK_nil, bs_size, bs_toList]
    rw [wrap_succ (by omega)]) (by
    intro m k H
    simp only [laws_markFileS_l0, hlen, Option.bind_some]
    rw [decide_eq_false (by omega), cond_false]) (xs.length + 1 + 1) k H (by omega) hk h
  exact ⟨H', run_laws_markFileS_of (xs.length + 1) (by simp only [laws_markFileS]; exact e1), u, r⟩
theorem k_laws_markStringS {H : List Entry} {w : Bool} {n : Nat} {ids : List Nat} {c : Cell} (xs : List Str) (k : Nat) (hx : bdL maxLen (bdS maxLen) xs) (h : Rep H w true n ids c (trL 1 trStr xs)) (hn : ids.Nodup) (hk : k + cntL one1 xs ≤ markMax) :
    ∃ H', run_laws_markStringS [.one c, .one (Cell.int (k : Int))] H = some ([.one (Cell.int ((k + cntL one1 xs : Nat) : Int))], H') ∧ Upd ids H H' ∧ Rep H' w true n ids c (trL 1 trStr (mkL mkStr one1 xs k)) := by
  cases n with
  | zero => exact h.elim
  | succ n =>
  have hM := maxLen_eq
  have hlen := h.lenC
  rw [List.length_map] at hlen
  have hxl : xs.length ≤ maxLen := hx.1
  obtain ⟨H', e1, u, r⟩ := mark_loop (sz := 1) (c := c) trStr mkStr one1 xs (fun m k i H => laws_markStringS_l0 (xs.length + 1 + 1) (xs.length + 1 + 1) m c k i H) (by
    intro m i k x H trs hi hm hr hl hk h
    have h0 : Rep H w true (n + 1) ids c (.list 1 (trs.set i (trStr x))) := by rw [set_same hr]; exact h
    have hi' : i < trs.length := by omega
    have hk0 := hk
    simp only [one1] at hk
    obtain ⟨id0, p0, q0, row0, a0, d0, st0, sb0⟩ := h0.idxR hn hi'
    obtain ⟨H0, s0, u0, h1⟩ := st0 0 _ (.string (bs (markB k))) rfl
    have y0 : IntKind.i64.wrap (((k : Nat) : Int) + 1) = ((k + 1 : Nat) : Int) := wrapK (by omega)
    have ek : k + one1 x = (k + 1) := rfl
    refine ⟨H0, ?_, u0, h1⟩
    rw [ek]
    simp only [laws_markStringS_l0, hlen, Option.bind_some]
    rw [decide_eq_true (by omega), cond_true]
    simp only [a0, s0, c_laws_markText k (by omega), y0, fldA_ptr, Nat.zero_add, Nat.reduceAdd, wrap_u8, callS_canon, callL_canon, Option.map_some, Option.bind_some, shape_one, shape_agg, shape_nil, cellsAt_0, cellsAt_1, cellsAt_2, cellsAt_3, cells_one, cells_agg, cB_zero, cI_zero, cS_zero, cC_zero, cB_cons, cI_cons, cS_cons, cC_cons, cond_true, cond_false, List.length_cons, List.length_nil, beq_self_eq_true, Bool.and_true, Bool.true_and, lenC_encL, lenC_lst, deref_ref, emptyK_nil, bs_size, bs_toList]
    rw [wrap_succ (by omega)]) (by
    intro m k H
    simp only [laws_markStringS_l0, hlen, Option.bind_some]
    rw [decide_eq_false (by omega), cond_false]) (xs.length + 1 + 1) k H (by omega) hk h
  exact ⟨H', run_laws_markStringS_of (xs.length + 1) (by simp only [laws_markStringS]; exact e1), u, r⟩
theorem k_laws_markEnvS {H : List Entry} {w : Bool} {n : Nat} {ids : List Nat} {c : Cell} (xs : List MEnv) (k : Nat) (hx : bdL maxLen (MEnv.Bd maxLen) xs) (h : Rep H w true n ids c (trL 2 MEnv.tr xs)) (hn : ids.Nodup) (hk : k + cntL MEnv.cntR xs ≤ markMax) :
    ∃ H', run_laws_markEnvS [.one c, .one (Cell.int (k : Int))] H = some ([.one (Cell.int ((k + cntL MEnv.cntR xs : Nat) : Int))], H') ∧ Upd ids H H' ∧ Rep H' w true n ids c (trL 2 MEnv.tr (mkL MEnv.mkR MEnv.cntR xs k)) := by
  cases n with
  | zero => exact h.elim
  | succ n =>
  have hM := maxLen_eq
  have hlen := h.lenC
  rw [List.length_map] at hlen
  have hxl : xs.length ≤ maxLen := hx.1
  obtain ⟨H', e1, u, r⟩ := mark_loop (sz := 2) (c := c) MEnv.tr MEnv.mkR MEnv.cntR xs (fun m k i H => laws_markEnvS_l0 (xs.length + 1 + 1) (xs.length + 1 + 1) m c k i H) (by
    intro m i k x H trs hi hm hr hl hk h
    have h0 : Rep H w true (n + 1) ids c (.list 2 (trs.set i (MEnv.tr x))) := by rw [set_same hr]; exact h
    have hi' : i < trs.length := by omega
    have hb := hx.2 x hm
    have hk0 := hk
    simp only [MEnv.cntR] at hk
    obtain ⟨id0, p0, q0, row0, a0, d0, st0, sb0⟩ := h0.idxR hn hi'
    obtain ⟨H0, s0, u0, h1⟩ := st0 0 _ (.string (bs (markB k))) rfl
    have y0 : IntKind.i64.wrap (((k : Nat) : Int) + 1) = ((k + 1 : Nat) : Int) := wrapK (by omega)
    obtain ⟨id1, p1, q1, row1, a1, d1, st1, sb1⟩ := h1.idxR hn hi'
    obtain ⟨rfl, rfl, rfl⟩ := ptr_same a0 a1
    obtain ⟨H1, s1, u1, h2⟩ := st1 1 _ (.string (bs (markB (k + 1)))) rfl
    have y1 : IntKind.i64.wrap ((((k + 1) : Nat) : Int) + 1) = (((k + 1) + 1 : Nat) : Int) := wrapK (by omega)
    have ek : k + MEnv.cntR x = ((k + 1) + 1) := (by simp only [MEnv.cntR] <;> omega)
    refine ⟨H1, ?_, u0.trans (u1), h2⟩
    rw [ek]
    simp only [laws_markEnvS_l0, hlen, Option.bind_some]
    rw [decide_eq_true (by omega), cond_true]
    simp only [a0, s0, c_laws_markText k (by omega), y0, a1, s1, c_laws_markText (k + 1) (by omega), y1, fldA_ptr, Nat.zero_add, Nat.reduceAdd, wrap_u8, callS_canon, callL_canon, Option.map_some, Option.bind_some, shape_one, shape_agg, shape_nil, cellsAt_0, cellsAt_1, cellsAt_2, cellsAt_3, cells_one, cells_agg, cB_zero, cI_zero, cS_zero, cC_zero, cB_cons, cI_cons, cS_cons, cC_cons, cond_true, cond_false, List.length_cons, List.length_nil, beq_self_eq_true, Bool.and_true, Bool.true_and, lenC_encL, lenC_lst, deref_ref, emptyK_nil, bs_size, bs_toList]
    rw [wrap_succ (by omega)]) (by
    intro m k H
    simp only [laws_markEnvS_l0, hlen, Option.bind_some]
    rw [decide_eq_false (by omega), cond_false]) (xs.length + 1 + 1) k H (by omega) hk h
  exact ⟨H', run_laws_markEnvS_of (xs.length + 1) (by simp only [laws_markEnvS]; exact e1), u, r⟩
theorem k_laws_markMadeS {H : List Entry} {w : Bool} {n : Nat} {ids : List Nat} {c : Cell} (xs : List MMade) (k : Nat) (hx : bdL maxLen (MMade.Bd maxLen) xs) (h : Rep H w true n ids c (trL 3 MMade.tr xs)) (hn : ids.Nodup) (hk : k + cntL MMade.cntR xs ≤ markMax) :
    ∃ H', run_laws_markMadeS [.one c, .one (Cell.int (k : Int))] H = some ([.one (Cell.int ((k + cntL MMade.cntR xs : Nat) : Int))], H') ∧ Upd ids H H' ∧ Rep H' w true n ids c (trL 3 MMade.tr (mkL MMade.mkR MMade.cntR xs k)) := by
  cases n with
  | zero => exact h.elim
  | succ n =>
  have hM := maxLen_eq
  have hlen := h.lenC
  rw [List.length_map] at hlen
  have hxl : xs.length ≤ maxLen := hx.1
  obtain ⟨H', e1, u, r⟩ := mark_loop (sz := 3) (c := c) MMade.tr MMade.mkR MMade.cntR xs (fun m k i H => laws_markMadeS_l0 (xs.length + 1 + 1) (xs.length + 1 + 1) m c k i H) (by
    intro m i k x H trs hi hm hr hl hk h
    have h0 : Rep H w true (n + 1) ids c (.list 3 (trs.set i (MMade.tr x))) := by rw [set_same hr]; exact h
    have hi' : i < trs.length := by omega
    have hb := hx.2 x hm
    have hk0 := hk
    simp only [MMade.cntR] at hk
    obtain ⟨id0, p0, q0, row0, a0, d0, st0, sb0⟩ := h0.idxR hn hi'
    obtain ⟨H0, s0, u0, h1⟩ := st0 0 _ (.string (bs (markB k))) rfl
    have y0 : IntKind.i64.wrap (((k : Nat) : Int) + 1) = ((k + 1 : Nat) : Int) := wrapK (by omega)
    obtain ⟨id1, p1, q1, row1, a1, d1, st1, sb1⟩ := h1.idxR hn hi'
    obtain ⟨rfl, rfl, rfl⟩ := ptr_same a0 a1
    obtain ⟨cc1, sub1, g1, r1, nd1, bk1⟩ := sb1 1 _ rfl
    obtain ⟨H1, s1, v1, z1⟩ := k_laws_markFileS (x.Outs) (k + 1) (hb.2.1) r1 nd1 (by omega)
    obtain ⟨u1, h2⟩ := bk1 _ _ v1 z1
    obtain ⟨id2, p2, q2, row2, a2, d2, st2, sb2⟩ := h2.idxR hn hi'
    obtain ⟨rfl, rfl, rfl⟩ := ptr_same a0 a2
    obtain ⟨H2, s2, u2, h3⟩ := st2 2 _ (.string (bs (markB ((k + 1) + cntL MFile.cntR x.Outs)))) rfl
    have y2 : IntKind.i64.wrap (((((k + 1) + cntL MFile.cntR x.Outs) : Nat) : Int) + 1) = ((((k + 1) + cntL MFile.cntR x.Outs) + 1 : Nat) : Int) := wrapK (by omega)
    have ek : k + MMade.cntR x = (((k + 1) + cntL MFile.cntR x.Outs) + 1) := (by simp only [MMade.cntR] <;> omega)
    refine ⟨H2, ?_, u0.trans (u1.trans (u2)), h3⟩
    rw [ek]
    simp only [laws_markMadeS_l0, hlen, Option.bind_some]
    rw [decide_eq_true (by omega), cond_true]
    simp only [a0, s0, c_laws_markText k (by omega), y0, a1, d1, g1, s1, a2, s2, c_laws_markText ((k + 1) + cntL MFile.cntR x.Outs) (by omega), y2, fldA_ptr, Nat.zero_add, Nat.reduceAdd, wrap_u8, callS_canon, callL_canon, Option.map_some, Option.bind_some, shape_one, shape_agg, shape_nil, cellsAt_0, cellsAt_1, cellsAt_2, cellsAt_3, cells_one, cells_agg, cB_zero, cI_zero, cS_zero, cC_zero, cB_cons, cI_cons, cS_cons, cC_cons, cond_true, cond_false, List.length_cons, List.length_nil, beq_self_eq_true, Bool.and_true, Bool.true_and, lenC_encL, lenC_lst, deref_ref, emptyK_nil, bs_size, bs_toList]
    rw [wrap_succ (by omega)]) (by
    intro m k H
    simp only [laws_markMadeS_l0, hlen, Option.bind_some]
    rw [decide_eq_false (by omega), cond_false]) (xs.length + 1 + 1) k H (by omega) hk h
  exact ⟨H', run_laws_markMadeS_of (xs.length + 1) (by simp only [laws_markMadeS]; exact e1), u, r⟩
theorem k_laws_markJob {H : List Entry} {w : Bool} {n : Nat} {ids : List Nat} {cs : List Cell} (x : MJob) (k : Nat) (hx : x.Bd maxLen) (h0 : Sp (Rep H w true n) ids cs x.tr) (hn : ids.Nodup) (hk : k + x.cntA ≤ markMax) :
    ∃ H', run_laws_markJob [.agg cs, .one (Cell.int (k : Int))] H = some ([.one (Cell.int ((k + x.cntA : Nat) : Int))], H') ∧ Upd ids H H' ∧ Sp (Rep H' w true n) ids cs (x.mkA k).tr := by
  obtain ⟨c1, c2, c3, c4, rfl⟩ := MJob.open h0
  have hk0 := hk
  simp only [MJob.cntA] at hk
  obtain ⟨sub0, r0, nd0, bk0⟩ := Sp.field h0 hn 1 (cc := c1) rfl rfl
  obtain ⟨H0, s0, v0, z0⟩ := k_laws_markStringS (x.Acts) k (hx.2.1) r0 nd0 (by omega)
  obtain ⟨u0, h1⟩ := bk0 _ _ v0 z0
  obtain ⟨sub1, r1, nd1, bk1⟩ := Sp.field h1 hn 2 (cc := c2) rfl rfl
  obtain ⟨H1, s1, v1, z1⟩ := k_laws_markFileS (x.Ins) (k + cntL one1 x.Acts) (hx.2.2.1) r1 nd1 (by omega)
  obtain ⟨u1, h2⟩ := bk1 _ _ v1 z1
  obtain ⟨sub2, r2, nd2, bk2⟩ := Sp.field h2 hn 3 (cc := c3) rfl rfl
  obtain ⟨H2, s2, v2, z2⟩ := k_laws_markEnvS (x.Envs) ((k + cntL one1 x.Acts) + cntL MFile.cntR x.Ins) (hx.2.2.2.1) r2 nd2 (by omega)
  obtain ⟨u2, h3⟩ := bk2 _ _ v2 z2
  obtain ⟨sub3, r3, nd3, bk3⟩ := Sp.field h3 hn 4 (cc := c4) rfl rfl
  obtain ⟨H3, s3, v3, z3⟩ := k_laws_markMadeS (x.Deps) (((k + cntL one1 x.Acts) + cntL MFile.cntR x.Ins) + cntL MEnv.cntR x.Envs) (hx.2.2.2.2) r3 nd3 (by omega)
  obtain ⟨u3, h4⟩ := bk3 _ _ v3 z3
  have ek : k + x.cntA = ((((k + cntL one1 x.Acts) + cntL MFile.cntR x.Ins) + cntL MEnv.cntR x.Envs) + cntL MMade.cntR x.Deps) := by simp only [MJob.cntA] <;> omega
  refine ⟨H3, run_laws_markJob_of 0 ?_, u0.trans (u1.trans (u2.trans (u3))), h4⟩
  rw [ek]
  simp only [laws_markJob, s0, s1, s2, s3, callS_canon, callL_canon, Option.map_some, Option.bind_some, shape_one, shape_agg, shape_nil, cellsAt_0, cellsAt_1, cellsAt_2, cellsAt_3, cells_one, cells_agg, cB_zero, cI_zero, cS_zero, cC_zero, cB_cons, cI_cons, cS_cons, cC_cons, cond_true, cond_false, List.length_cons, List.length_nil, beq_self_eq_true, Bool.and_true, Bool.true_and, lenC_encL, lenC_lst, deref_ref, emptyK_nil, bs_size, bs_toList]
end Go.Ev
