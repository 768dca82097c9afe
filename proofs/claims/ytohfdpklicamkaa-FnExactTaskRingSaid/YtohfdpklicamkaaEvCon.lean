/- What the laws' own functions come to: sizes, copies, comparisons. Conditions: none. -/
import Derived.Test.YtohfdpklicamkaaEvMod
import Derived.Test.YtohfdpklicamkaaSh2
set_option linter.unusedSimpArgs false
set_option linter.unusedVariables false
namespace Go.Ev
open Go
theorem c_laws_szStringS (xs : List Str) (l : Int) (hx : bdL maxLen (bdS maxLen) xs) (h0 : 0 ≤ l) (h1 : l ≤ 1099511627776) : out run_laws_szStringS [.one (encL 1 eStr xs), .one (Cell.int l)] = some [.one (Cell.int (szI (wtL wtS xs) l))] := by
  have loop : ∀ (ys : List Str) (i n : Nat) (l : Int), xs.drop i = ys → ys.length < n → 0 ≤ l → l ≤ 1099511627776 → ∀ k m, laws_szStringS_l0 k m n (encL 1 eStr xs) l i = some ([.one (Cell.int (szI (ys.map wtS).sum l))], []) := by
    intro ys
    induction ys with
    | nil =>
      intro i n l hd hn h0 h1 k m
      obtain ⟨n, rfl⟩ : ∃ j, n = j + 1 := ⟨n - 1, by omega⟩
      have := drop_nil hd
      simp only [laws_szStringS_l0, lenC_encL, Option.bind_some]
      rw [decide_eq_false (by omega)]
      simp only [List.map_nil, List.sum_nil]
      rw [szI_zero h0, cond_false]
    | cons x ys ih =>
      intro i n l hd hn h0 h1 k m
      obtain ⟨n, rfl⟩ : ∃ j, n = j + 1 := ⟨n - 1, by omega⟩
      obtain ⟨hlt, hg, hd'⟩ := drop_cons hd
      have hxl := hx.1
      have hM := maxLen_eq
      have hb : x.length ≤ maxLen := hx.2 x (List.mem_of_getElem? hg)
      simp only [laws_szStringS_l0, lenC_encL, Option.bind_some, idxA_encL, hg, Option.map_some, deref_ref, eStr, cS_zero, bs_size]
      rw [decide_eq_true (by omega), cond_true, wrap_succ (by omega), wrap_small (by omega) (by omega)]
      simp only [List.map_cons, List.sum_cons, wtS]
      simp only [List.length_cons] at hn
      by_cases g : (x.length : Int) ≤ l
      · rw [decide_eq_false (by omega), cond_false, ih _ _ _ hd' (by omega) (by omega) (by omega), szI_add g]
      · rw [decide_eq_true (by omega), cond_true, szI_over g]
  have hM := maxLen_eq
  have hxl := hx.1
  refine out_of (H := []) (run_laws_szStringS_of (xs.length + 1) ?_)
  simp only [laws_szStringS, lenC_encL, Option.bind_some]
  rw [wrap_small (by omega) (by omega)]
  by_cases g : (xs.length : Int) ≤ l
  · rw [decide_eq_false (by omega), cond_false]
    have := loop xs 0 (xs.length + 1 + 1) (l - xs.length) rfl (by omega) (by omega) (by omega) (xs.length + 1 + 1) (xs.length + 1 + 1)
    simp only [Int.natCast_zero] at this
    rw [this, szI_add g]
    rfl
  · rw [decide_eq_true (by omega), cond_true]
    have : szI (wtL wtS xs) l = -1 := szI_over g
    rw [this]
theorem c_laws_szStringSS (xs : List (List Str)) (l : Int) (hx : bdL maxLen (bdL maxLen (bdS maxLen)) xs) (h0 : 0 ≤ l) (h1 : l ≤ 1099511627776) : out run_laws_szStringSS [.one (encL 1 eStrs xs), .one (Cell.int l)] = some [.one (Cell.int (szI (wtL (wtL wtS) xs) l))] := by
  have loop : ∀ (ys : List (List Str)) (i n : Nat) (l : Int), xs.drop i = ys → ys.length < n → 0 ≤ l → l ≤ 1099511627776 → ∀ k m, laws_szStringSS_l0 k m n (encL 1 eStrs xs) l i = some ([.one (Cell.int (szI (ys.map (wtL wtS)).sum l))], []) := by
    intro ys
    induction ys with
    | nil =>
      intro i n l hd hn h0 h1 k m
      obtain ⟨n, rfl⟩ : ∃ j, n = j + 1 := ⟨n - 1, by omega⟩
      have := drop_nil hd
      simp only [laws_szStringSS_l0, lenC_encL, Option.bind_some]
      rw [decide_eq_false (by omega)]
      simp only [List.map_nil, List.sum_nil]
      rw [szI_zero h0, cond_false]
    | cons x ys ih =>
      intro i n l hd hn h0 h1 k m
      obtain ⟨n, rfl⟩ : ∃ j, n = j + 1 := ⟨n - 1, by omega⟩
      obtain ⟨hlt, hg, hd'⟩ := drop_cons hd
      have hxl := hx.1
      have hM := maxLen_eq
      have hb := hx.2 x (List.mem_of_getElem? hg)
      simp only [laws_szStringSS_l0, idxA_encL, hg, eStrs, callS_canon, callL_canon, Option.map_some, Option.bind_some, shape_one, shape_agg, shape_nil, cellsAt_0, cellsAt_1, cellsAt_2, cellsAt_3, cells_one, cells_agg, cB_zero, cI_zero, cS_zero, cC_zero, cB_cons, cI_cons, cS_cons, cC_cons, cond_true, cond_false, List.length_cons, List.length_nil, beq_self_eq_true, Bool.and_true, Bool.true_and, lenC_encL, lenC_lst, deref_ref, emptyK_nil, bs_size, bs_toList]
      rw [decide_eq_true (by omega), cond_true, c_laws_szStringS _ _ hb (by omega) (by omega)]
      simp only [callS_canon, callL_canon, Option.map_some, Option.bind_some, shape_one, shape_agg, shape_nil, cellsAt_0, cellsAt_1, cellsAt_2, cellsAt_3, cells_one, cells_agg, cB_zero, cI_zero, cS_zero, cC_zero, cB_cons, cI_cons, cS_cons, cC_cons, cond_true, cond_false, List.length_cons, List.length_nil, beq_self_eq_true, Bool.and_true, Bool.true_and, lenC_encL, lenC_lst, deref_ref, emptyK_nil, bs_size, bs_toList, condSz]
      rw [wrap_succ (by omega)]
      simp only [List.map_cons, List.sum_cons]
      simp only [List.length_cons] at hn
      by_cases g : ((((wtL wtS) x) : Nat) : Int) ≤ l
      · rw [if_pos g, szI_pos g, ih _ _ _ hd' (by omega) (by omega) (by omega), szI_add g]
      · rw [if_neg g, szI_over g]
  have hM := maxLen_eq
  have hxl := hx.1
  refine out_of (H := []) (run_laws_szStringSS_of (xs.length + 1) ?_)
  simp only [laws_szStringSS, lenC_encL, Option.bind_some]
  rw [wrap_small (by omega) (by omega)]
  by_cases g : (xs.length : Int) ≤ l
  · rw [decide_eq_false (by omega), cond_false]
    have := loop xs 0 (xs.length + 1 + 1) (l - xs.length) rfl (by omega) (by omega) (by omega) (xs.length + 1 + 1) (xs.length + 1 + 1)
    simp only [Int.natCast_zero] at this
    rw [this, szI_add g]
    rfl
  · rw [decide_eq_true (by omega), cond_true]
    have : szI (wtL (wtL wtS) xs) l = -1 := szI_over g
    rw [this]
theorem c_laws_szPlan (x : MPlan) (l : Int) (hx : x.Bd maxLen) (h0 : 0 ≤ l) (h1 : l ≤ 1099511627776) : out run_laws_szPlan [.agg [encL 1 eStr x.Tasks, encL 1 eStrs x.Deps], .one (Cell.int l)] = some [.one (Cell.int (szI x.wt l))] := by
  obtain ⟨b0, b1⟩ := hx
  have hM := maxLen_eq
  refine out_of (H := []) (run_laws_szPlan_of 0 ?_)
  simp only [laws_szPlan, MPlan.wt, callS_canon, callL_canon, Option.map_some, Option.bind_some, shape_one, shape_agg, shape_nil, cellsAt_0, cellsAt_1, cellsAt_2, cellsAt_3, cells_one, cells_agg, cB_zero, cI_zero, cS_zero, cC_zero, cB_cons, cI_cons, cS_cons, cC_cons, cond_true, cond_false, List.length_cons, List.length_nil, beq_self_eq_true, Bool.and_true, Bool.true_and, lenC_encL, lenC_lst, deref_ref, emptyK_nil, bs_size, bs_toList]
  rw [c_laws_szStringS _ _ b0 (by omega) (by omega)]
  simp only [callS_canon, callL_canon, Option.map_some, Option.bind_some, shape_one, shape_agg, shape_nil, cellsAt_0, cellsAt_1, cellsAt_2, cellsAt_3, cells_one, cells_agg, cB_zero, cI_zero, cS_zero, cC_zero, cB_cons, cI_cons, cS_cons, cC_cons, cond_true, cond_false, List.length_cons, List.length_nil, beq_self_eq_true, Bool.and_true, Bool.true_and, lenC_encL, lenC_lst, deref_ref, emptyK_nil, bs_size, bs_toList, condSz]
  by_cases g0 : ((wtL wtS x.Tasks : Nat) : Int) ≤ l
  · rw [if_pos g0, szI_pos g0]
    rw [c_laws_szStringSS _ _ b1 (by omega) (by omega)]
    simp only [callS_canon, callL_canon, Option.map_some, Option.bind_some, shape_one, shape_agg, shape_nil, cellsAt_0, cellsAt_1, cellsAt_2, cellsAt_3, cells_one, cells_agg, cB_zero, cI_zero, cS_zero, cC_zero, cB_cons, cI_cons, cS_cons, cC_cons, cond_true, cond_false, List.length_cons, List.length_nil, beq_self_eq_true, Bool.and_true, Bool.true_and, lenC_encL, lenC_lst, deref_ref, emptyK_nil, bs_size, bs_toList, condSz]
    by_cases g1 : ((wtL (wtL wtS) x.Deps : Nat) : Int) ≤ l - ((wtL wtS x.Tasks : Nat) : Int)
    · rw [if_pos g1, szI_pos g1]
      first | done | rw [szI_pos (by omega)]
      first | done | (congr 5 <;> omega)
    · rw [if_neg g1, szI_neg (by omega)]
  · rw [if_neg g0, szI_neg (by omega)]
theorem f_laws_toStringS (xs : List Str) (hb : bdL 1048576 (bdS 1048576) xs) : Fresh run_laws_toStringS true 2 [.one (encL 1 eStr xs)] [.one (trL 1 trStr xs)] := by
  have hxl : xs.length ≤ 1048576 := hb.1
  have hM := maxLen_eq
  refine fill_fresh (sz := 1) (n := 1) (z := [Cell.str (bs [])]) rfl (by intro c hc; simp only [List.mem_cons, List.not_mem_nil, or_false] at hc; rcases hc with rfl <;> rfl) trStr xs (fun m i H => laws_toStringS_l0 (xs.length + 1 + 1) (xs.length + 1 + 1) m (encL 1 eStr xs) (.vs 0 1 0 xs.length 0) i H) ?_ ?_ (xs.length + 1 + 1) (by omega) ?_
  · intro m i x H hi hm hx hg
    refine ⟨[.sc (.string (bs x))], [], [], ?_, rfl, Sp.leaf1 _, Mine.nil (by simp), by rw [List.append_nil]; exact hg⟩
    rw [List.append_nil]
    simp only [laws_toStringS_l0, lenC_encL, Option.bind_some, idxA_encL, hx, Option.map_some, deref_ref, eStr, cS_zero]
    rw [decide_eq_true (by omega), cond_true, idxA_vs _ _ _ _ _ hi, wrap_succ (by omega)]
    rfl
  · intro m H
    simp only [laws_toStringS_l0, lenC_encL, Option.bind_some]
    rw [decide_eq_false (by omega), cond_false]
  · intro r hr
    refine run_laws_toStringS_of (xs.length + 1) ?_
    simp only [laws_toStringS, lenC_encL, Option.bind_some]
    rw [if_pos (by unfold bound; refine ⟨?_, ?_, ?_, ?_⟩ <;> omega)]
    exact hr
theorem f_laws_toStringSS (xs : List (List Str)) (hb : bdL 1048576 (bdL 1048576 (bdS 1048576)) xs) : Fresh run_laws_toStringSS true 3 [.one (encL 1 eStrs xs)] [.one (trL 1 (trLs 1 trStr) xs)] := by
  have hxl : xs.length ≤ 1048576 := hb.1
  have hM := maxLen_eq
  refine fill_fresh (sz := 1) (n := 2) (z := [.lst true 1 []]) rfl (by intro c hc; simp only [List.mem_cons, List.not_mem_nil, or_false] at hc; rcases hc with rfl <;> rfl) (trLs 1 trStr) xs (fun m i H => laws_toStringSS_l0 (xs.length + 1 + 1) (xs.length + 1 + 1) m (encL 1 eStrs xs) (.vs 0 1 0 xs.length 0) i H) ?_ ?_ (xs.length + 1 + 1) (by omega) ?_
  · intro m i x H hi hm hx hg
    obtain ⟨c, E, ids, e0, r0, w0, g0⟩ := freshO (f_laws_toStringS x (hb.2 x hm)) H (mapO_canon [.one (encL 1 eStr x)] _ _)
    refine ⟨[c], E, ids, ?_, rfl, Sp.one1 r0, w0, g0 hg⟩
    simp only [laws_toStringSS_l0, lenC_encL, Option.bind_some, idxA_encL, hx, eStrs, e0, callS_canon, callL_canon, Option.map_some, Option.bind_some, shape_one, shape_agg, shape_nil, cellsAt_0, cellsAt_1, cellsAt_2, cellsAt_3, cells_one, cells_agg, cB_zero, cI_zero, cS_zero, cC_zero, cB_cons, cI_cons, cS_cons, cC_cons, cond_true, cond_false, List.length_cons, List.length_nil, beq_self_eq_true, Bool.and_true, Bool.true_and, lenC_encL, lenC_lst, deref_ref, emptyK_nil, bs_size, bs_toList]
    rw [decide_eq_true (by omega), cond_true, idxA_vs _ _ _ _ _ hi, wrap_succ (by omega)]
    simp only [Option.bind_some]
  · intro m H
    simp only [laws_toStringSS_l0, lenC_encL, Option.bind_some]
    rw [decide_eq_false (by omega), cond_false]
  · intro r hr
    refine run_laws_toStringSS_of (xs.length + 1) ?_
    simp only [laws_toStringSS, lenC_encL, Option.bind_some]
    rw [if_pos (by unfold bound; refine ⟨?_, ?_, ?_, ?_⟩ <;> omega)]
    exact hr
theorem f_laws_toPlan (x : MPlan) (hx : x.Bd 1048576) : Fresh run_laws_toPlan true 3 [.agg [encL 1 eStr x.Tasks, encL 1 eStrs x.Deps]] [.agg x.tr] := by
  obtain ⟨b0, b1⟩ := hx
  obtain ⟨c0, E0, i0, e0, r0, w0, g0⟩ := freshO (f_laws_toStringS (x.Tasks) b0) (([] : List Entry)) (mapO_canon [.one (encL 1 eStr x.Tasks)] _ _)
  obtain ⟨c1, E1, i1, e1, r1, w1, g1⟩ := freshO (f_laws_toStringSS (x.Deps) b1) (([] : List Entry) ++ E0) (mapO_canon [.one (encL 1 eStrs x.Deps)] _ _)
  have hs : Sp (Rep (([] : List Entry) ++ E0 ++ E1) true true 3) (i0 ++ (i1 ++ ([] : List Nat))) [c0, c1] x.tr := (Sp.append (Sp.one1 (Rep.more (m := 3) (Rep.app E1 r0) (by omega))) (Sp.append (Sp.one1 (Rep.more (m := 3) r1 (by omega))) (Sp.nil)) :)
  have hw : Mine 0 (([] : List Entry) ++ E0 ++ E1).length (i0 ++ (i1 ++ ([] : List Nat))) := Mine.app w0 (Mine.app w1 (Mine.nil (Nat.le_refl _)))
  refine Fresh.agg (run_laws_toPlan_of 0 ?_) hs hw.nd
  simp only [laws_toPlan, e0, e1, callS_canon, callL_canon, Option.map_some, Option.bind_some, shape_one, shape_agg, shape_nil, cellsAt_0, cellsAt_1, cellsAt_2, cellsAt_3, cells_one, cells_agg, cB_zero, cI_zero, cS_zero, cC_zero, cB_cons, cI_cons, cS_cons, cC_cons, cond_true, cond_false, List.length_cons, List.length_nil, beq_self_eq_true, Bool.and_true, Bool.true_and, lenC_encL, lenC_lst, deref_ref, emptyK_nil, bs_size, bs_toList]
theorem c_laws_eqStringS (xs ys : List Str) (hx : bdL 1048576 (bdS 1048576) xs) (hy : bdL 1048576 (bdS 1048576) ys) : out run_laws_eqStringS [.one (encL 1 eStr xs), .one (encL 1 eStr ys)] = some [.one (Cell.bool (decide (xs = ys)))] := by
  have hxl : xs.length ≤ 1048576 := hx.1
  have hM := maxLen_eq
  have loop : xs.length = ys.length → ∀ (us vs : List Str) (i n : Nat), xs.drop i = us → ys.drop i = vs → us.length < n → ∀ k m, laws_eqStringS_l0 k m n (encL 1 eStr xs) (encL 1 eStr ys) i = some ([.one (Cell.bool (decide (us = vs)))], []) := by
    intro hlen us
    induction us with
    | nil =>
      intro vs i n hd he hn k m
      obtain ⟨n, rfl⟩ : ∃ j, n = j + 1 := ⟨n - 1, by omega⟩
      have := drop_nil hd
      have hv : vs = [] := by rw [← he]; exact List.drop_eq_nil_of_le (by omega)
      subst hv
      simp only [laws_eqStringS_l0, lenC_encL, Option.bind_some]
      rw [decide_eq_false (by omega)]
      simp
    | cons x us ih =>
      intro vs i n hd he hn k m
      obtain ⟨n, rfl⟩ : ∃ j, n = j + 1 := ⟨n - 1, by omega⟩
      obtain ⟨hlt, hgx, hd'⟩ := drop_cons hd
      cases vs with
      | nil => have := drop_nil he; omega
      | cons y vs =>
      obtain ⟨hlt', hgy, he'⟩ := drop_cons he
      simp only [List.length_cons] at hn
      simp only [laws_eqStringS_l0, idxA_encL, hgx, hgy, eStr, callS_canon, callL_canon, Option.map_some, Option.bind_some, shape_one, shape_agg, shape_nil, cellsAt_0, cellsAt_1, cellsAt_2, cellsAt_3, cells_one, cells_agg, cB_zero, cI_zero, cS_zero, cC_zero, cB_cons, cI_cons, cS_cons, cC_cons, cond_true, cond_false, List.length_cons, List.length_nil, beq_self_eq_true, Bool.and_true, Bool.true_and, lenC_encL, lenC_lst, deref_ref, emptyK_nil, bs_size, bs_toList]
      rw [decide_eq_true (by omega)]
      simp only [callS_canon, callL_canon, Option.map_some, Option.bind_some, shape_one, shape_agg, shape_nil, cellsAt_0, cellsAt_1, cellsAt_2, cellsAt_3, cells_one, cells_agg, cB_zero, cI_zero, cS_zero, cC_zero, cB_cons, cI_cons, cS_cons, cC_cons, cond_true, cond_false, List.length_cons, List.length_nil, beq_self_eq_true, Bool.and_true, Bool.true_and, lenC_encL, lenC_lst, deref_ref, emptyK_nil, bs_size, bs_toList]
      rw [wrap_succ (by omega), ih vs (i + 1) n hd' he' (by omega), condF]
      congr 5
      rw [Bool.eq_iff_iff]
      simp
  refine out_of (H := []) (run_laws_eqStringS_of (xs.length + 1) ?_)
  simp only [laws_eqStringS, lenC_encL, Option.bind_some]
  by_cases h : xs.length = ys.length
  · rw [show (((xs.length : Nat) : Int) != (ys.length : Int)) = false by simp [h], cond_false]
    exact loop h xs ys 0 _ rfl rfl (by omega) _ _
  · rw [show (((xs.length : Nat) : Int) != (ys.length : Int)) = true by simp only [bne_iff_ne, ne_eq]; omega, cond_true]
    have : xs ≠ ys := fun e => h (by rw [e])
    simp [this]
theorem c_laws_eqStringSS (xs ys : List (List Str)) (hx : bdL 1048576 (bdL 1048576 (bdS 1048576)) xs) (hy : bdL 1048576 (bdL 1048576 (bdS 1048576)) ys) : out run_laws_eqStringSS [.one (encL 1 eStrs xs), .one (encL 1 eStrs ys)] = some [.one (Cell.bool (decide (xs = ys)))] := by
  have hxl : xs.length ≤ 1048576 := hx.1
  have hM := maxLen_eq
  have loop : xs.length = ys.length → ∀ (us vs : List (List Str)) (i n : Nat), xs.drop i = us → ys.drop i = vs → us.length < n → ∀ k m, laws_eqStringSS_l0 k m n (encL 1 eStrs xs) (encL 1 eStrs ys) i = some ([.one (Cell.bool (decide (us = vs)))], []) := by
    intro hlen us
    induction us with
    | nil =>
      intro vs i n hd he hn k m
      obtain ⟨n, rfl⟩ : ∃ j, n = j + 1 := ⟨n - 1, by omega⟩
      have := drop_nil hd
      have hv : vs = [] := by rw [← he]; exact List.drop_eq_nil_of_le (by omega)
      subst hv
      simp only [laws_eqStringSS_l0, lenC_encL, Option.bind_some]
      rw [decide_eq_false (by omega)]
      simp
    | cons x us ih =>
      intro vs i n hd he hn k m
      obtain ⟨n, rfl⟩ : ∃ j, n = j + 1 := ⟨n - 1, by omega⟩
      obtain ⟨hlt, hgx, hd'⟩ := drop_cons hd
      cases vs with
      | nil => have := drop_nil he; omega
      | cons y vs =>
      obtain ⟨hlt', hgy, he'⟩ := drop_cons he
      simp only [List.length_cons] at hn
      have hbx := hx.2 x (List.mem_of_getElem? hgx)
      have hby := hy.2 y (List.mem_of_getElem? hgy)
      simp only [laws_eqStringSS_l0, idxA_encL, hgx, hgy, eStrs, c_laws_eqStringS _ _ hbx hby, callS_canon, callL_canon, Option.map_some, Option.bind_some, shape_one, shape_agg, shape_nil, cellsAt_0, cellsAt_1, cellsAt_2, cellsAt_3, cells_one, cells_agg, cB_zero, cI_zero, cS_zero, cC_zero, cB_cons, cI_cons, cS_cons, cC_cons, cond_true, cond_false, List.length_cons, List.length_nil, beq_self_eq_true, Bool.and_true, Bool.true_and, lenC_encL, lenC_lst, deref_ref, emptyK_nil, bs_size, bs_toList]
      rw [decide_eq_true (by omega)]
      simp only [callS_canon, callL_canon, Option.map_some, Option.bind_some, shape_one, shape_agg, shape_nil, cellsAt_0, cellsAt_1, cellsAt_2, cellsAt_3, cells_one, cells_agg, cB_zero, cI_zero, cS_zero, cC_zero, cB_cons, cI_cons, cS_cons, cC_cons, cond_true, cond_false, List.length_cons, List.length_nil, beq_self_eq_true, Bool.and_true, Bool.true_and, lenC_encL, lenC_lst, deref_ref, emptyK_nil, bs_size, bs_toList]
      rw [wrap_succ (by omega), ih vs (i + 1) n hd' he' (by omega), condF]
      congr 5
      rw [Bool.eq_iff_iff]
      simp
  refine out_of (H := []) (run_laws_eqStringSS_of (xs.length + 1) ?_)
  simp only [laws_eqStringSS, lenC_encL, Option.bind_some]
  by_cases h : xs.length = ys.length
  · rw [show (((xs.length : Nat) : Int) != (ys.length : Int)) = false by simp [h], cond_false]
    exact loop h xs ys 0 _ rfl rfl (by omega) _ _
  · rw [show (((xs.length : Nat) : Int) != (ys.length : Int)) = true by simp only [bne_iff_ne, ne_eq]; omega, cond_true]
    have : xs ≠ ys := fun e => h (by rw [e])
    simp [this]
theorem c_laws_eqPlan (x y : MPlan) (hx : x.Bd 1048576) (hy : y.Bd 1048576) : out run_laws_eqPlan [.agg [encL 1 eStr x.Tasks, encL 1 eStrs x.Deps], .agg [encL 1 eStr y.Tasks, encL 1 eStrs y.Deps]] = some [.one (Cell.bool (decide (x = y)))] := by
  obtain ⟨b0, b1⟩ := hx
  obtain ⟨d0, d1⟩ := hy
  refine out_of (H := []) (run_laws_eqPlan_of 0 ?_)
  simp only [laws_eqPlan, c_laws_eqStringS _ _ b0 d0, c_laws_eqStringSS _ _ b1 d1, callS_canon, callL_canon, Option.map_some, Option.bind_some, shape_one, shape_agg, shape_nil, cellsAt_0, cellsAt_1, cellsAt_2, cellsAt_3, cells_one, cells_agg, cB_zero, cI_zero, cS_zero, cC_zero, cB_cons, cI_cons, cS_cons, cC_cons, cond_true, cond_false, List.length_cons, List.length_nil, beq_self_eq_true, Bool.and_true, Bool.true_and, lenC_encL, lenC_lst, deref_ref, emptyK_nil, bs_size, bs_toList, condF, condNe]
  congr 5
  rw [Bool.eq_iff_iff]
  cases x; cases y
  simp [MPlan.mk.injEq]
theorem c_laws_markText (k : Nat) (hk : k ≤ markMax) : out run_laws_markText [.one (Cell.int (k : Int))] = some [.one (Cell.str (bs (markB k)))] := by
  refine out_of (H := []) (run_laws_markText_of k ?_)
  by_cases h : k = 0
  · subst h
    simp [laws_markText, markB]
  · simp only [laws_markText]
    rw [decide_eq_false (by omega), cond_false, markB, if_neg h]
    refine dig_loop (fun n i s => laws_markText_l0 (k + 1) (k + 1) n i s) (fun n s => ?_) (fun n i s hi => ?_) (k + 1) k k [] (by omega) (by omega) (by simpa using hk)
    · simp [laws_markText_l0]
    · simp only [laws_markText_l0]
      rw [decide_eq_true (by omega), cond_true]
theorem k_laws_markStringS {H : List Entry} {w : Bool} {n : Nat} {ids : List Nat} {c : Cell} (xs : List Str) (k : Nat) (hx : bdL maxLen (bdS maxLen) xs) (h : Rep H w true n ids c (trL 1 trStr xs)) (hn : ids.Nodup) (hk : k + cntL one1 xs ≤ markMax) :
    ∃ H', run_laws_markStringS [.one c, .one (Cell.int (k : Int))] H = some ([.one (Cell.int ((k + cntL one1 xs : Nat) : Int))], H') ∧ Upd ids H H' ∧ Rep H' w true n ids c (trL 1 trStr (mkL mkStr one1 xs k)) := by
  cases n with
  | zero => exact h.elim
  | succ n =>
  have hM := maxLen_eq
  have hlen := h.lenC
  rw [List.length_map] at hlen
  have hxl : xs.length ≤ maxLen := hx.1
  obtain ⟨H', e1, u, r⟩ := mark_loop (sz := 1) (c := c) trStr mkStr one1 xs (fun m k i H => laws_markStringS_l0 (xs.length + 1 + 1) (xs.length + 1 + 1) m c k i H) (by
    intro m i k x H trs hi hm hr hl hk h
    have h0 : Rep H w true (n + 1) ids c (.list 1 (trs.set i (trStr x))) := by rw [set_same hr]; exact h
    have hi' : i < trs.length := by omega
    have hk0 := hk
    simp only [one1] at hk
    obtain ⟨id0, p0, q0, row0, a0, d0, st0, sb0⟩ := h0.idxR hn hi'
    obtain ⟨H0, s0, u0, h1⟩ := st0 0 _ (.string (bs (markB k))) rfl
    have y0 : IntKind.i64.wrap (((k : Nat) : Int) + 1) = ((k + 1 : Nat) : Int) := wrapK (by omega)
    have ek : k + one1 x = (k + 1) := rfl
    refine ⟨H0, ?_, u0, h1⟩
    rw [ek]
    simp only [laws_markStringS_l0, hlen, Option.bind_some]
    rw [decide_eq_true (by omega), cond_true]
    simp only [a0, s0, c_laws_markText k (by omega), y0, fldA_ptr, Nat.zero_add, Nat.reduceAdd, wrap_u8, callS_canon, callL_canon, Option.map_some, Option.bind_some, shape_one, shape_agg, shape_nil, cellsAt_0, cellsAt_1, cellsAt_2, cellsAt_3, cells_one, cells_agg, cB_zero, cI_zero, cS_zero, cC_zero, cB_cons, cI_cons, cS_cons, cC_cons, cond_true, cond_false, List.length_cons, List.length_nil, beq_self_eq_true, Bool.and_true, Bool.true_and, lenC_encL, lenC_lst, deref_ref, emptyK_nil, bs_size, bs_toList]
    rw [wrap_succ (by omega)]) (by
    intro m k H
    simp only [laws_markStringS_l0, hlen, Option.bind_some]
    rw [decide_eq_false (by omega), cond_false]) (xs.length + 1 + 1) k H (by omega) hk h
  exact ⟨H', run_laws_markStringS_of (xs.length + 1) (by simp only [laws_markStringS]; exact e1), u, r⟩
theorem k_laws_markStringSS {H : List Entry} {w : Bool} {n : Nat} {ids : List Nat} {c : Cell} (xs : List (List Str)) (k : Nat) (hx : bdL maxLen (bdL maxLen (bdS maxLen)) xs) (h : Rep H w true n ids c (trL 1 (trLs 1 trStr) xs)) (hn : ids.Nodup) (hk : k + cntL (cntL one1) xs ≤ markMax) :
    ∃ H', run_laws_markStringSS [.one c, .one (Cell.int (k : Int))] H = some ([.one (Cell.int ((k + cntL (cntL one1) xs : Nat) : Int))], H') ∧ Upd ids H H' ∧ Rep H' w true n ids c (trL 1 (trLs 1 trStr) (mkL (mkL mkStr one1) (cntL one1) xs k)) := by
  cases n with
  | zero => exact h.elim
  | succ n =>
  have hM := maxLen_eq
  have hlen := h.lenC
  rw [List.length_map] at hlen
  have hxl : xs.length ≤ maxLen := hx.1
  obtain ⟨H', e1, u, r⟩ := mark_loop (sz := 1) (c := c) (trLs 1 trStr) (mkL mkStr one1) (cntL one1) xs (fun m k i H => laws_markStringSS_l0 (xs.length + 1 + 1) (xs.length + 1 + 1) m c k i H) (by
    intro m i k x H trs hi hm hr hl hk h
    have h0 : Rep H w true (n + 1) ids c (.list 1 (trs.set i ((trLs 1 trStr) x))) := by rw [set_same hr]; exact h
    have hi' : i < trs.length := by omega
    have hb := hx.2 x hm
    have hk0 := hk
    obtain ⟨id0, p0, q0, row0, a0, d0, st0, sb0⟩ := h0.idxR hn hi'
    obtain ⟨cc0, sub0, g0, r0, nd0, bk0⟩ := sb0 0 _ rfl
    obtain ⟨H0, s0, v0, z0⟩ := k_laws_markStringS (x) k (hb) r0 nd0 (by omega)
    obtain ⟨u0, h1⟩ := bk0 _ _ v0 z0
    have ek : k + (cntL one1) x = (k + cntL one1 x) := rfl
    refine ⟨H0, ?_, u0, h1⟩
    rw [ek]
    simp only [laws_markStringSS_l0, hlen, Option.bind_some]
    rw [decide_eq_true (by omega), cond_true]
    simp only [a0, d0, g0, s0, fldA_ptr, Nat.zero_add, Nat.reduceAdd, wrap_u8, callS_canon, callL_canon, Option.map_some, Option.bind_some, shape_one, shape_agg, shape_nil, cellsAt_0, cellsAt_1, cellsAt_2, cellsAt_3, cells_one, cells_agg, cB_zero, cI_zero, cS_zero, cC_zero, cB_cons, cI_cons, cS_cons, cC_cons, cond_true, cond_false, List.length_cons, List.length_nil, beq_self_eq_true, Bool.and_true, Bool.true_and, lenC_encL, lenC_lst, deref_ref, emptyK_nil, bs_size, bs_toList]
    rw [wrap_succ (by omega)]) (by
    intro m k H
    simp only [laws_markStringSS_l0, hlen, Option.bind_some]
    rw [decide_eq_false (by omega), cond_false]) (xs.length + 1 + 1) k H (by omega) hk h
  exact ⟨H', run_laws_markStringSS_of (xs.length + 1) (by simp only [laws_markStringSS]; exact e1), u, r⟩
theorem k_laws_markPlan {H : List Entry} {w : Bool} {n : Nat} {ids : List Nat} {cs : List Cell} (x : MPlan) (k : Nat) (hx : x.Bd maxLen) (h0 : Sp (Rep H w true n) ids cs x.tr) (hn : ids.Nodup) (hk : k + x.cntA ≤ markMax) :
    ∃ H', run_laws_markPlan [.agg cs, .one (Cell.int (k : Int))] H = some ([.one (Cell.int ((k + x.cntA : Nat) : Int))], H') ∧ Upd ids H H' ∧ Sp (Rep H' w true n) ids cs (x.mkA k).tr := by
  obtain ⟨c0, c1, rfl⟩ := MPlan.open h0
  have hk0 := hk
  simp only [MPlan.cntA] at hk
  obtain ⟨sub0, r0, nd0, bk0⟩ := Sp.field h0 hn 0 (cc := c0) rfl rfl
  obtain ⟨H0, s0, v0, z0⟩ := k_laws_markStringS (x.Tasks) k (hx.1) r0 nd0 (by omega)
  obtain ⟨u0, h1⟩ := bk0 _ _ v0 z0
  obtain ⟨sub1, r1, nd1, bk1⟩ := Sp.field h1 hn 1 (cc := c1) rfl rfl
  obtain ⟨H1, s1, v1, z1⟩ := k_laws_markStringSS (x.Deps) (k + cntL one1 x.Tasks) (hx.2) r1 nd1 (by omega)
  obtain ⟨u1, h2⟩ := bk1 _ _ v1 z1
  have ek : k + x.cntA = ((k + cntL one1 x.Tasks) + cntL (cntL one1) x.Deps) := by simp only [MPlan.cntA] <;> omega
  refine ⟨H1, run_laws_markPlan_of 0 ?_, u0.trans (u1), h2⟩
  rw [ek]
  simp only [laws_markPlan, s0, s1, callS_canon, callL_canon, Option.map_some, Option.bind_some, shape_one, shape_agg, shape_nil, cellsAt_0, cellsAt_1, cellsAt_2, cellsAt_3, cells_one, cells_agg, cB_zero, cI_zero, cS_zero, cC_zero, cB_cons, cI_cons, cS_cons, cC_cons, cond_true, cond_false, List.length_cons, List.length_nil, beq_self_eq_true, Bool.and_true, Bool.true_and, lenC_encL, lenC_lst, deref_ref, emptyK_nil, bs_size, bs_toList]
theorem e_laws_heldStringS (xs : List Str) (k : Nat) (hx : bdL maxLen (bdS maxLen) xs) (hk : k + cntL one1 xs ≤ markMax) : out run_laws_heldStringS [.one (encL 1 eStr (mkL mkStr one1 xs k)), .one (Cell.int (k : Int))] = some [.one (Cell.int ((k + cntL one1 xs : Nat) : Int))] := by
  have hM := maxLen_eq
  have hyl : (mkL mkStr one1 xs k).length ≤ maxLen := by rw [mkL_length]; exact hx.1
  have loop : ∀ (ys : List Str) (hyl : ys.length ≤ maxLen) (r : List Str) (i k n : Nat), ys.drop i = mkL mkStr one1 r k → (∀ y ∈ r, True) → r.length < n → k + cntL one1 r ≤ markMax → ∀ K m, laws_heldStringS_l0 K m n (encL 1 eStr ys) k i = some ([.one (Cell.int ((k + cntL one1 r : Nat) : Int))], []) := by
    intro ys hyl r
    induction r with
    | nil =>
      intro i k n hd hx hn hk K m
      obtain ⟨n, rfl⟩ : ∃ j, n = j + 1 := ⟨n - 1, by omega⟩
      have := drop_nil hd
      simp only [laws_heldStringS_l0, lenC_encL, Option.bind_some]
      rw [decide_eq_false (by omega), cond_false, cntL_nil, Nat.add_zero]
    | cons x r ih =>
      intro i k n hd hx hn hk K m
      obtain ⟨n, rfl⟩ : ∃ j, n = j + 1 := ⟨n - 1, by omega⟩
      obtain ⟨hlt, hg, hd'⟩ := drop_cons hd
      simp only [List.length_cons] at hn
      rw [cntL_cons, ← Nat.add_assoc] at hk ⊢
      have hk0 := hk
      have ek : k + one1 x = (k + 1) := rfl
      rw [ek] at hk hd' ⊢
      have y0 : IntKind.i64.wrap (((k : Nat) : Int) + 1) = ((k + 1 : Nat) : Int) := wrapK (by omega)
      simp only [laws_heldStringS_l0, lenC_encL, Option.bind_some, idxA_encL, hg, eStr, mkStr, wrap_u8, bne_self_eq_false, Bool.not_true, fldA_ref, Nat.zero_add, Nat.reduceAdd, c_laws_markText k (by omega), y0, callS_canon, callL_canon, Option.map_some, Option.bind_some, shape_one, shape_agg, shape_nil, cellsAt_0, cellsAt_1, cellsAt_2, cellsAt_3, cells_one, cells_agg, cB_zero, cI_zero, cS_zero, cC_zero, cB_cons, cI_cons, cS_cons, cC_cons, cond_true, cond_false, List.length_cons, List.length_nil, beq_self_eq_true, Bool.and_true, Bool.true_and, lenC_encL, lenC_lst, deref_ref, emptyK_nil, bs_size, bs_toList]
      rw [decide_eq_true (by omega), cond_true, wrap_succ (by omega)]
      exact ih _ _ _ hd' (fun y hy => hx y (List.mem_cons_of_mem _ hy)) (by omega) (by omega) _ _
  refine out_of (H := []) (run_laws_heldStringS_of (xs.length + 1) ?_)
  simp only [laws_heldStringS]
  have := loop _ hyl xs 0 k (xs.length + 1 + 1) rfl (fun _ _ => trivial) (by omega) hk (xs.length + 1 + 1) (xs.length + 1 + 1)
  simp only [Int.natCast_zero] at this
  exact this
end Go.Ev
