/- What the laws' own functions come to: sizes, copies, comparisons. Conditions: none. -/
import Derived.Test.YtiocamjonchabaaDoorEvMod
import Derived.Test.YtiocamjonchabaaDoorSh1
set_option linter.unusedSimpArgs false
set_option linter.unusedVariables false
namespace Go.Ev
open Go
theorem c_laws_szFile (x : MFile) (l : Int) (hx : x.Bd maxLen) (h0 : 0 ≤ l) (h1 : l ≤ 1099511627776) : out run_laws_szFile [.agg [Cell.str (bs x.Path), Cell.str (bs x.Text)], .one (Cell.int l)] = some [.one (Cell.int (szI x.wt l))] := by
  obtain ⟨b0, b1⟩ := hx
  have hM := maxLen_eq
  have k0 : x.Path.length ≤ maxLen := b0
  have q0 : wtS x.Path = x.Path.length := rfl
  have k1 : x.Text.length ≤ maxLen := b1
  have q1 : wtS x.Text = x.Text.length := rfl
  refine out_of (H := []) (run_laws_szFile_of 0 ?_)
  simp only [laws_szFile, MFile.wt, callS_canon, callL_canon, Option.map_some, Option.bind_some, shape_one, shape_agg, shape_nil, cellsAt_0, cellsAt_1, cellsAt_2, cellsAt_3, cells_one, cells_agg, cB_zero, cI_zero, cS_zero, cC_zero, cB_cons, cI_cons, cS_cons, cC_cons, cond_true, cond_false, List.length_cons, List.length_nil, beq_self_eq_true, Bool.and_true, Bool.true_and, lenC_encL, lenC_lst, deref_ref, emptyK_nil, bs_size, bs_toList]
  rw [wrap_small (by omega) (by omega)]
  by_cases g0 : (x.Path.length : Int) ≤ l
  · rw [decide_eq_false (by omega), cond_false]
    rw [wrap_small (by omega) (by omega)]
    by_cases g1 : (x.Text.length : Int) ≤ l - (x.Path.length : Int)
    · rw [decide_eq_false (by omega), cond_false]
      first | done | rw [szI_pos (by omega)]
      first | done | (congr 5 <;> omega)
    · rw [decide_eq_true (by omega), cond_true, szI_neg (by omega)]
  · rw [decide_eq_true (by omega), cond_true, szI_neg (by omega)]
theorem c_laws_szFileS (xs : List MFile) (l : Int) (hx : bdL maxLen (MFile.Bd maxLen) xs) (h0 : 0 ≤ l) (h1 : l ≤ 1099511627776) : out run_laws_szFileS [.one (encL 2 MFile.enc xs), .one (Cell.int l)] = some [.one (Cell.int (szI (wtL MFile.wt xs) l))] := by
  have loop : ∀ (ys : List MFile) (i n : Nat) (l : Int), xs.drop i = ys → ys.length < n → 0 ≤ l → l ≤ 1099511627776 → ∀ k m, laws_szFileS_l0 k m n (encL 2 MFile.enc xs) l i = some ([.one (Cell.int (szI (ys.map MFile.wt).sum l))], []) := by
    intro ys
    induction ys with
    | nil =>
      intro i n l hd hn h0 h1 k m
      obtain ⟨n, rfl⟩ : ∃ j, n = j + 1 := ⟨n - 1, by omega⟩
      have := drop_nil hd
      simp only [laws_szFileS_l0, lenC_encL, Option.bind_some]
      rw [decide_eq_false (by omega)]
      simp only [List.map_nil, List.sum_nil]
      rw [szI_zero h0, cond_false]
    | cons x ys ih =>
      intro i n l hd hn h0 h1 k m
      obtain ⟨n, rfl⟩ : ∃ j, n = j + 1 := ⟨n - 1, by omega⟩
      obtain ⟨hlt, hg, hd'⟩ := drop_cons hd
      have hxl := hx.1
      have hM := maxLen_eq
      have hb := hx.2 x (List.mem_of_getElem? hg)
      simp only [laws_szFileS_l0, idxA_encL, hg, MFile.enc, callS_canon, callL_canon, Option.map_some, Option.bind_some, shape_one, shape_agg, shape_nil, cellsAt_0, cellsAt_1, cellsAt_2, cellsAt_3, cells_one, cells_agg, cB_zero, cI_zero, cS_zero, cC_zero, cB_cons, cI_cons, cS_cons, cC_cons, cond_true, cond_false, List.length_cons, List.length_nil, beq_self_eq_true, Bool.and_true, Bool.true_and, lenC_encL, lenC_lst, deref_ref, emptyK_nil, bs_size, bs_toList]
      rw [decide_eq_true (by omega), cond_true, c_laws_szFile _ _ hb (by omega) (by omega)]
      simp only [callS_canon, callL_canon, Option.map_some, Option.bind_some, shape_one, shape_agg, shape_nil, cellsAt_0, cellsAt_1, cellsAt_2, cellsAt_3, cells_one, cells_agg, cB_zero, cI_zero, cS_zero, cC_zero, cB_cons, cI_cons, cS_cons, cC_cons, cond_true, cond_false, List.length_cons, List.length_nil, beq_self_eq_true, Bool.and_true, Bool.true_and, lenC_encL, lenC_lst, deref_ref, emptyK_nil, bs_size, bs_toList, condSz]
      rw [wrap_succ (by omega)]
      simp only [List.map_cons, List.sum_cons]
      simp only [List.length_cons] at hn
      by_cases g : (((MFile.wt x) : Nat) : Int) ≤ l
      · rw [if_pos g, szI_pos g, ih _ _ _ hd' (by omega) (by omega) (by omega), szI_add g]
      · rw [if_neg g, szI_over g]
  have hM := maxLen_eq
  have hxl := hx.1
  refine out_of (H := []) (run_laws_szFileS_of (xs.length + 1) ?_)
  simp only [laws_szFileS, lenC_encL, Option.bind_some]
  rw [wrap_small (by omega) (by omega)]
  by_cases g : (xs.length : Int) ≤ l
  · rw [decide_eq_false (by omega), cond_false]
    have := loop xs 0 (xs.length + 1 + 1) (l - xs.length) rfl (by omega) (by omega) (by omega) (xs.length + 1 + 1) (xs.length + 1 + 1)
    simp only [Int.natCast_zero] at this
    rw [this, szI_add g]
    rfl
  · rw [decide_eq_true (by omega), cond_true]
    have : szI (wtL MFile.wt xs) l = -1 := szI_over g
    rw [this]
theorem c_laws_szMade (x : MMade) (l : Int) (hx : x.Bd maxLen) (h0 : 0 ≤ l) (h1 : l ≤ 1099511627776) : out run_laws_szMade [.agg [Cell.str (bs x.Task), encL 2 MFile.enc x.Outs, Cell.str (bs x.Log)], .one (Cell.int l)] = some [.one (Cell.int (szI x.wt l))] := by
  obtain ⟨b0, b1, b2⟩ := hx
  have hM := maxLen_eq
  have k0 : x.Task.length ≤ maxLen := b0
  have q0 : wtS x.Task = x.Task.length := rfl
  have k2 : x.Log.length ≤ maxLen := b2
  have q2 : wtS x.Log = x.Log.length := rfl
  refine out_of (H := []) (run_laws_szMade_of 0 ?_)
  simp only [laws_szMade, MMade.wt, callS_canon, callL_canon, Option.map_some, Option.bind_some, shape_one, shape_agg, shape_nil, cellsAt_0, cellsAt_1, cellsAt_2, cellsAt_3, cells_one, cells_agg, cB_zero, cI_zero, cS_zero, cC_zero, cB_cons, cI_cons, cS_cons, cC_cons, cond_true, cond_false, List.length_cons, List.length_nil, beq_self_eq_true, Bool.and_true, Bool.true_and, lenC_encL, lenC_lst, deref_ref, emptyK_nil, bs_size, bs_toList]
  rw [wrap_small (by omega) (by omega)]
  by_cases g0 : (x.Task.length : Int) ≤ l
  · rw [decide_eq_false (by omega), cond_false]
    rw [c_laws_szFileS _ _ b1 (by omega) (by omega)]
    simp only [callS_canon, callL_canon, Option.map_some, Option.bind_some, shape_one, shape_agg, shape_nil, cellsAt_0, cellsAt_1, cellsAt_2, cellsAt_3, cells_one, cells_agg, cB_zero, cI_zero, cS_zero, cC_zero, cB_cons, cI_cons, cS_cons, cC_cons, cond_true, cond_false, List.length_cons, List.length_nil, beq_self_eq_true, Bool.and_true, Bool.true_and, lenC_encL, lenC_lst, deref_ref, emptyK_nil, bs_size, bs_toList, condSz]
    by_cases g1 : ((wtL MFile.wt x.Outs : Nat) : Int) ≤ l - (x.Task.length : Int)
    · rw [if_pos g1, szI_pos g1]
      rw [wrap_small (by omega) (by omega)]
      by_cases g2 : (x.Log.length : Int) ≤ l - (x.Task.length : Int) - ((wtL MFile.wt x.Outs : Nat) : Int)
      · rw [decide_eq_false (by omega), cond_false]
        first | done | rw [szI_pos (by omega)]
        first | done | (congr 5 <;> omega)
      · rw [decide_eq_true (by omega), cond_true, szI_neg (by omega)]
    · rw [if_neg g1, szI_neg (by omega)]
  · rw [decide_eq_true (by omega), cond_true, szI_neg (by omega)]
theorem f_laws_toFile (x : MFile) (hx : x.Bd 1048576) : Fresh run_laws_toFile true 1 [.agg [Cell.str (bs x.Path), Cell.str (bs x.Text)]] [.agg x.tr] := by
  obtain ⟨b0, b1⟩ := hx
  have hs : Sp (Rep (([] : List Entry)) true true 1) ([] : List Nat) [Cell.str (bs x.Path), Cell.str (bs x.Text)] x.tr := (Sp.append (Sp.leafD (H := ([] : List Entry)) (w := true) (q := true) (n := 1) (by omega) (.string (bs x.Path))) (Sp.append (Sp.leafD (H := ([] : List Entry)) (w := true) (q := true) (n := 1) (by omega) (.string (bs x.Text))) (Sp.nil)) :)
  have hw : Mine 0 (([] : List Entry)).length ([] : List Nat) := Mine.nil (Nat.zero_le _)
  refine Fresh.agg (run_laws_toFile_of 0 ?_) hs hw.nd
  simp only [laws_toFile, callS_canon, callL_canon, Option.map_some, Option.bind_some, shape_one, shape_agg, shape_nil, cellsAt_0, cellsAt_1, cellsAt_2, cellsAt_3, cells_one, cells_agg, cB_zero, cI_zero, cS_zero, cC_zero, cB_cons, cI_cons, cS_cons, cC_cons, cond_true, cond_false, List.length_cons, List.length_nil, beq_self_eq_true, Bool.and_true, Bool.true_and, lenC_encL, lenC_lst, deref_ref, emptyK_nil, bs_size, bs_toList]
theorem f_laws_toFileS (xs : List MFile) (hb : bdL 1048576 (MFile.Bd 1048576) xs) : Fresh run_laws_toFileS true 2 [.one (encL 2 MFile.enc xs)] [.one (trL 2 MFile.tr xs)] := by
  have hxl : xs.length ≤ 1048576 := hb.1
  have hM := maxLen_eq
  refine fill_fresh (sz := 2) (n := 1) (z := [Cell.str (bs []), Cell.str (bs [])]) rfl (by intro c hc; simp only [List.mem_cons, List.not_mem_nil, or_false] at hc; rcases hc with rfl | rfl <;> rfl) MFile.tr xs (fun m i H => laws_toFileS_l0 (xs.length + 1 + 1) (xs.length + 1 + 1) m (encL 2 MFile.enc xs) (.vs 0 2 0 xs.length 0) i H) ?_ ?_ (xs.length + 1 + 1) (by omega) ?_
  · intro m i x H hi hm hx hg
    obtain ⟨cs, E, ids, e0, r0, w0, g0⟩ := freshA (f_laws_toFile x (hb.2 x hm)) H (mapO_canon [.agg [Cell.str (bs x.Path), Cell.str (bs x.Text)]] _ _)
    obtain rfl := MFile.open r0
    refine ⟨_, E, ids, ?_, rfl, r0, w0, g0 hg⟩
    simp only [laws_toFileS_l0, lenC_encL, Option.bind_some, idxA_encL, hx, MFile.enc, e0, callS_canon, callL_canon, Option.map_some, Option.bind_some, shape_one, shape_agg, shape_nil, cellsAt_0, cellsAt_1, cellsAt_2, cellsAt_3, cells_one, cells_agg, cB_zero, cI_zero, cS_zero, cC_zero, cB_cons, cI_cons, cS_cons, cC_cons, cond_true, cond_false, List.length_cons, List.length_nil, beq_self_eq_true, Bool.and_true, Bool.true_and, lenC_encL, lenC_lst, deref_ref, emptyK_nil, bs_size, bs_toList]
    rw [decide_eq_true (by omega), cond_true, idxA_vs _ _ _ _ _ hi, wrap_succ (by omega)]
    simp only [Option.bind_some]
  · intro m H
    simp only [laws_toFileS_l0, lenC_encL, Option.bind_some]
    rw [decide_eq_false (by omega), cond_false]
  · intro r hr
    refine run_laws_toFileS_of (xs.length + 1) ?_
    simp only [laws_toFileS, lenC_encL, Option.bind_some]
    rw [if_pos (by unfold bound; refine ⟨?_, ?_, ?_, ?_⟩ <;> omega)]
    exact hr
theorem f_laws_toMade (x : MMade) (hx : x.Bd 1048576) : Fresh run_laws_toMade true 2 [.agg [Cell.str (bs x.Task), encL 2 MFile.enc x.Outs, Cell.str (bs x.Log)]] [.agg x.tr] := by
  obtain ⟨b0, b1, b2⟩ := hx
  obtain ⟨c1, E1, i1, e1, r1, w1, g1⟩ := freshO (f_laws_toFileS (x.Outs) b1) (([] : List Entry)) (mapO_canon [.one (encL 2 MFile.enc x.Outs)] _ _)
  have hs : Sp (Rep (([] : List Entry) ++ E1) true true 2) (i1 ++ ([] : List Nat)) [Cell.str (bs x.Task), c1, Cell.str (bs x.Log)] x.tr := (Sp.append (Sp.leafD (H := ([] : List Entry) ++ E1) (w := true) (q := true) (n := 2) (by omega) (.string (bs x.Task))) (Sp.append (Sp.one1 (Rep.more (m := 2) r1 (by omega))) (Sp.append (Sp.leafD (H := ([] : List Entry) ++ E1) (w := true) (q := true) (n := 2) (by omega) (.string (bs x.Log))) (Sp.nil))) :)
  have hw : Mine 0 (([] : List Entry) ++ E1).length (i1 ++ ([] : List Nat)) := Mine.app w1 (Mine.nil (Nat.le_refl _))
  refine Fresh.agg (run_laws_toMade_of 0 ?_) hs hw.nd
  simp only [laws_toMade, e1, callS_canon, callL_canon, Option.map_some, Option.bind_some, shape_one, shape_agg, shape_nil, cellsAt_0, cellsAt_1, cellsAt_2, cellsAt_3, cells_one, cells_agg, cB_zero, cI_zero, cS_zero, cC_zero, cB_cons, cI_cons, cS_cons, cC_cons, cond_true, cond_false, List.length_cons, List.length_nil, beq_self_eq_true, Bool.and_true, Bool.true_and, lenC_encL, lenC_lst, deref_ref, emptyK_nil, bs_size, bs_toList]
theorem c_laws_eqByteS (xs ys : Str) {N : Nat} (hx : bdS N xs) (hy : bdS N ys) (hN : N ≤ 1099511627776 := by omega) : out run_laws_eqByteS [.one (bytesC xs), .one (bytesC ys)] = some [.one (Cell.bool (decide (xs = ys)))] := by
  have hxl : xs.length ≤ 1099511627776 := Nat.le_trans hx hN
  have hM := maxLen_eq
  have loop : xs.length = ys.length → ∀ (us vs : Str) (i n : Nat), xs.drop i = us → ys.drop i = vs → us.length < n → ∀ k m, laws_eqByteS_l0 k m n (bytesC xs) (bytesC ys) i = some ([.one (Cell.bool (decide (us = vs)))], []) := by
    intro hlen us
    induction us with
    | nil =>
      intro vs i n hd he hn k m
      obtain ⟨n, rfl⟩ : ∃ j, n = j + 1 := ⟨n - 1, by omega⟩
      have := drop_nil hd
      have hv : vs = [] := by rw [← he]; exact List.drop_eq_nil_of_le (by omega)
      subst hv
      simp only [laws_eqByteS_l0, lenC_encL, Option.bind_some]
      rw [decide_eq_false (by omega)]
      simp
    | cons x us ih =>
      intro vs i n hd he hn k m
      obtain ⟨n, rfl⟩ : ∃ j, n = j + 1 := ⟨n - 1, by omega⟩
      obtain ⟨hlt, hgx, hd'⟩ := drop_cons hd
      cases vs with
      | nil => have := drop_nil he; omega
      | cons y vs =>
      obtain ⟨hlt', hgy, he'⟩ := drop_cons he
      simp only [List.length_cons] at hn
      simp only [laws_eqByteS_l0, idxA_encL, hgx, hgy, eByte, callS_canon, callL_canon, Option.map_some, Option.bind_some, shape_one, shape_agg, shape_nil, cellsAt_0, cellsAt_1, cellsAt_2, cellsAt_3, cells_one, cells_agg, cB_zero, cI_zero, cS_zero, cC_zero, cB_cons, cI_cons, cS_cons, cC_cons, cond_true, cond_false, List.length_cons, List.length_nil, beq_self_eq_true, Bool.and_true, Bool.true_and, lenC_encL, lenC_lst, deref_ref, emptyK_nil, bs_size, bs_toList]
      rw [decide_eq_true (by omega)]
      simp only [callS_canon, callL_canon, Option.map_some, Option.bind_some, shape_one, shape_agg, shape_nil, cellsAt_0, cellsAt_1, cellsAt_2, cellsAt_3, cells_one, cells_agg, cB_zero, cI_zero, cS_zero, cC_zero, cB_cons, cI_cons, cS_cons, cC_cons, cond_true, cond_false, List.length_cons, List.length_nil, beq_self_eq_true, Bool.and_true, Bool.true_and, lenC_encL, lenC_lst, deref_ref, emptyK_nil, bs_size, bs_toList]
      rw [wrap_succ (by omega), ih vs (i + 1) n hd' he' (by omega), condNe]
      congr 5
      rw [Bool.eq_iff_iff]
      simp only [Bool.and_eq_true, beq_iff_eq, decide_eq_true_eq, List.cons.injEq]
      have : ((x.toNat : Int) = (y.toNat : Int)) ↔ x = y := ⟨fun h => UInt8.toNat_inj.1 (by omega), fun h => by rw [h]⟩
      rw [this]
  refine out_of (H := []) (run_laws_eqByteS_of (xs.length + 1) ?_)
  simp only [laws_eqByteS, lenC_encL, Option.bind_some]
  by_cases h : xs.length = ys.length
  · rw [show (((xs.length : Nat) : Int) != (ys.length : Int)) = false by simp [h], cond_false]
    exact loop h xs ys 0 _ rfl rfl (by omega) _ _
  · rw [show (((xs.length : Nat) : Int) != (ys.length : Int)) = true by simp only [bne_iff_ne, ne_eq]; omega, cond_true]
    have : xs ≠ ys := fun e => h (by rw [e])
    simp [this]
theorem c_laws_eqFile (x y : MFile) (hx : x.Bd 1048576) (hy : y.Bd 1048576) : out run_laws_eqFile [.agg [Cell.str (bs x.Path), Cell.str (bs x.Text)], .agg [Cell.str (bs y.Path), Cell.str (bs y.Text)]] = some [.one (Cell.bool (decide (x = y)))] := by
  obtain ⟨b0, b1⟩ := hx
  obtain ⟨d0, d1⟩ := hy
  refine out_of (H := []) (run_laws_eqFile_of 0 ?_)
  simp only [laws_eqFile, callS_canon, callL_canon, Option.map_some, Option.bind_some, shape_one, shape_agg, shape_nil, cellsAt_0, cellsAt_1, cellsAt_2, cellsAt_3, cells_one, cells_agg, cB_zero, cI_zero, cS_zero, cC_zero, cB_cons, cI_cons, cS_cons, cC_cons, cond_true, cond_false, List.length_cons, List.length_nil, beq_self_eq_true, Bool.and_true, Bool.true_and, lenC_encL, lenC_lst, deref_ref, emptyK_nil, bs_size, bs_toList, condF, condNe]
  congr 5
  rw [Bool.eq_iff_iff]
  cases x; cases y
  simp [MFile.mk.injEq]
theorem c_laws_eqFileS (xs ys : List MFile) (hx : bdL 1048576 (MFile.Bd 1048576) xs) (hy : bdL 1048576 (MFile.Bd 1048576) ys) : out run_laws_eqFileS [.one (encL 2 MFile.enc xs), .one (encL 2 MFile.enc ys)] = some [.one (Cell.bool (decide (xs = ys)))] := by
  have hxl : xs.length ≤ 1048576 := hx.1
  have hM := maxLen_eq
  have loop : xs.length = ys.length → ∀ (us vs : List MFile) (i n : Nat), xs.drop i = us → ys.drop i = vs → us.length < n → ∀ k m, laws_eqFileS_l0 k m n (encL 2 MFile.enc xs) (encL 2 MFile.enc ys) i = some ([.one (Cell.bool (decide (us = vs)))], []) := by
    intro hlen us
    induction us with
    | nil =>
      intro vs i n hd he hn k m
      obtain ⟨n, rfl⟩ : ∃ j, n = j + 1 := ⟨n - 1, by omega⟩
      have := drop_nil hd
      have hv : vs = [] := by rw [← he]; exact List.drop_eq_nil_of_le (by omega)
      subst hv
      simp only [laws_eqFileS_l0, lenC_encL, Option.bind_some]
      rw [decide_eq_false (by omega)]
      simp
    | cons x us ih =>
      intro vs i n hd he hn k m
      obtain ⟨n, rfl⟩ : ∃ j, n = j + 1 := ⟨n - 1, by omega⟩
      obtain ⟨hlt, hgx, hd'⟩ := drop_cons hd
      cases vs with
      | nil => have := drop_nil he; omega
      | cons y vs =>
      obtain ⟨hlt', hgy, he'⟩ := drop_cons he
      simp only [List.length_cons] at hn
      have hbx := hx.2 x (List.mem_of_getElem? hgx)
      have hby := hy.2 y (List.mem_of_getElem? hgy)
      simp only [laws_eqFileS_l0, idxA_encL, hgx, hgy, MFile.enc, c_laws_eqFile _ _ hbx hby, callS_canon, callL_canon, Option.map_some, Option.bind_some, shape_one, shape_agg, shape_nil, cellsAt_0, cellsAt_1, cellsAt_2, cellsAt_3, cells_one, cells_agg, cB_zero, cI_zero, cS_zero, cC_zero, cB_cons, cI_cons, cS_cons, cC_cons, cond_true, cond_false, List.length_cons, List.length_nil, beq_self_eq_true, Bool.and_true, Bool.true_and, lenC_encL, lenC_lst, deref_ref, emptyK_nil, bs_size, bs_toList]
      rw [decide_eq_true (by omega)]
      simp only [callS_canon, callL_canon, Option.map_some, Option.bind_some, shape_one, shape_agg, shape_nil, cellsAt_0, cellsAt_1, cellsAt_2, cellsAt_3, cells_one, cells_agg, cB_zero, cI_zero, cS_zero, cC_zero, cB_cons, cI_cons, cS_cons, cC_cons, cond_true, cond_false, List.length_cons, List.length_nil, beq_self_eq_true, Bool.and_true, Bool.true_and, lenC_encL, lenC_lst, deref_ref, emptyK_nil, bs_size, bs_toList]
      rw [wrap_succ (by omega), ih vs (i + 1) n hd' he' (by omega), condF]
      congr 5
      rw [Bool.eq_iff_iff]
      simp
  refine out_of (H := []) (run_laws_eqFileS_of (xs.length + 1) ?_)
  simp only [laws_eqFileS, lenC_encL, Option.bind_some]
  by_cases h : xs.length = ys.length
  · rw [show (((xs.length : Nat) : Int) != (ys.length : Int)) = false by simp [h], cond_false]
    exact loop h xs ys 0 _ rfl rfl (by omega) _ _
  · rw [show (((xs.length : Nat) : Int) != (ys.length : Int)) = true by simp only [bne_iff_ne, ne_eq]; omega, cond_true]
    have : xs ≠ ys := fun e => h (by rw [e])
    simp [this]
theorem c_laws_eqMade (x y : MMade) (hx : x.Bd 1048576) (hy : y.Bd 1048576) : out run_laws_eqMade [.agg [Cell.str (bs x.Task), encL 2 MFile.enc x.Outs, Cell.str (bs x.Log)], .agg [Cell.str (bs y.Task), encL 2 MFile.enc y.Outs, Cell.str (bs y.Log)]] = some [.one (Cell.bool (decide (x = y)))] := by
  obtain ⟨b0, b1, b2⟩ := hx
  obtain ⟨d0, d1, d2⟩ := hy
  refine out_of (H := []) (run_laws_eqMade_of 0 ?_)
  simp only [laws_eqMade, c_laws_eqFileS _ _ b1 d1, callS_canon, callL_canon, Option.map_some, Option.bind_some, shape_one, shape_agg, shape_nil, cellsAt_0, cellsAt_1, cellsAt_2, cellsAt_3, cells_one, cells_agg, cB_zero, cI_zero, cS_zero, cC_zero, cB_cons, cI_cons, cS_cons, cC_cons, cond_true, cond_false, List.length_cons, List.length_nil, beq_self_eq_true, Bool.and_true, Bool.true_and, lenC_encL, lenC_lst, deref_ref, emptyK_nil, bs_size, bs_toList, condF, condNe]
  congr 5
  rw [Bool.eq_iff_iff]
  cases x; cases y
  simp [MMade.mk.injEq]
theorem c_laws_markText (k : Nat) (hk : k ≤ markMax) : out run_laws_markText [.one (Cell.int (k : Int))] = some [.one (Cell.str (bs (markB k)))] := by
  refine out_of (H := []) (run_laws_markText_of k ?_)
  by_cases h : k = 0
  · subst h
    simp [laws_markText, markB]
  · simp only [laws_markText]
    rw [decide_eq_false (by omega), cond_false, markB, if_neg h]
    refine dig_loop (fun n i s => laws_markText_l0 (k + 1) (k + 1) n i s) (fun n s => ?_) (fun n i s hi => ?_) (k + 1) k k [] (by omega) (by omega) (by simpa using hk)
    · simp [laws_markText_l0]
    · simp only [laws_markText_l0]
      rw [decide_eq_true (by omega), cond_true]
theorem k_laws_markFileS {H : List Entry} {w : Bool} {n : Nat} {ids : List Nat} {c : Cell} (xs : List MFile) (k : Nat) (hx : bdL maxLen (MFile.Bd maxLen) xs) (h : Rep H w true n ids c (trL 2 MFile.tr xs)) (hn : ids.Nodup) (hk : k + cntL MFile.cntR xs ≤ markMax) :
    ∃ H', run_laws_markFileS [.one c, .one (Cell.int (k : Int))] H = some ([.one (Cell.int ((k + cntL MFile.cntR xs : Nat) : Int))], H') ∧ Upd ids H H' ∧ Rep H' w true n ids c (trL 2 MFile.tr (mkL MFile.mkR MFile.cntR xs k)) := by
  cases n with
  | zero => exact h.elim
  | succ n =>
  have hM := maxLen_eq
  have hlen := h.lenC
  rw [List.length_map] at hlen
  have hxl : xs.length ≤ maxLen := hx.1
  obtain ⟨H', e1, u, r⟩ := mark_loop (sz := 2) (c := c) MFile.tr MFile.mkR MFile.cntR xs (fun m k i H => laws_markFileS_l0 (xs.length + 1 + 1) (xs.length + 1 + 1) m c k i H) (by
    intro m i k x H trs hi hm hr hl hk h
    have h0 : Rep H w true (n + 1) ids c (.list 2 (trs.set i (MFile.tr x))) := by rw [set_same hr]; exact h
    have hi' : i < trs.length := by omega
    have hb := hx.2 x hm
    have hk0 := hk
    simp only [MFile.cntR] at hk
    obtain ⟨id0, p0, q0, row0, a0, d0, st0, sb0⟩ := h0.idxR hn hi'
    obtain ⟨H0, s0, u0, h1⟩ := st0 0 _ (.string (bs (markB k))) rfl
    have y0 : IntKind.i64.wrap (((k : Nat) : Int) + 1) = ((k + 1 : Nat) : Int) := wrapK (by omega)
    obtain ⟨id1, p1, q1, row1, a1, d1, st1, sb1⟩ := h1.idxR hn hi'
    obtain ⟨rfl, rfl, rfl⟩ := ptr_same a0 a1
    obtain ⟨H1, s1, u1, h2⟩ := st1 1 _ (.string (bs (markB (k + 1)))) rfl
    have y1 : IntKind.i64.wrap ((((k + 1) : Nat) : Int) + 1) = (((k + 1) + 1 : Nat) : Int) := wrapK (by omega)
    have ek : k + MFile.cntR x = ((k + 1) + 1) := (by simp only [MFile.cntR] <;> omega)
    refine ⟨H1, ?_, u0.trans (u1), h2⟩
    rw [ek]
    simp only [laws_markFileS_l0, hlen, Option.bind_some]
    rw [decide_eq_true (by omega), cond_true]
    simp only [a0, s0, c_laws_markText k (by omega), y0, a1, s1, c_laws_markText (k + 1) (by omega), y1, fldA_ptr, Nat.zero_add, Nat.reduceAdd, wrap_u8, callS_canon, callL_canon, Option.map_some, Option.bind_some, shape_one, shape_agg, shape_nil, cellsAt_0, cellsAt_1, cellsAt_2, cellsAt_3, cells_one, cells_agg, cB_zero, cI_zero, cS_zero, cC_zero, cB_cons, cI_cons, cS_cons, cC_cons, cond_true, cond_false, List.length_cons, List.length_nil, beq_self_eq_true, Bool.and_true, Bool.true_and, lenC_encL, lenC_lst, deref_ref, emptyK_nil, bs_size, bs_toList]
    rw [wrap_succ (by omega)]) (by
    intro m k H
    simp only [laws_markFileS_l0, hlen, Option.bind_some]
    rw [decide_eq_false (by omega), cond_false]) (xs.length + 1 + 1) k H (by omega) hk h
  exact ⟨H', run_laws_markFileS_of (xs.length + 1) (by simp only [laws_markFileS]; exact e1), u, r⟩
theorem k_laws_markMade {H : List Entry} {w : Bool} {n : Nat} {ids : List Nat} {cs : List Cell} (x : MMade) (k : Nat) (hx : x.Bd maxLen) (h0 : Sp (Rep H w true n) ids cs x.tr) (hn : ids.Nodup) (hk : k + x.cntA ≤ markMax) :
    ∃ H', run_laws_markMade [.agg cs, .one (Cell.int (k : Int))] H = some ([.one (Cell.int ((k + x.cntA : Nat) : Int))], H') ∧ Upd ids H H' ∧ Sp (Rep H' w true n) ids cs (x.mkA k).tr := by
  obtain ⟨c1, rfl⟩ := MMade.open h0
  have hk0 := hk
  simp only [MMade.cntA] at hk
  obtain ⟨sub0, r0, nd0, bk0⟩ := Sp.field h0 hn 1 (cc := c1) rfl rfl
  obtain ⟨H0, s0, v0, z0⟩ := k_laws_markFileS (x.Outs) k (hx.2.1) r0 nd0 (by omega)
  obtain ⟨u0, h1⟩ := bk0 _ _ v0 z0
  have ek : k + x.cntA = (k + cntL MFile.cntR x.Outs) := by simp only [MMade.cntA] <;> omega
  refine ⟨H0, run_laws_markMade_of 0 ?_, u0, h1⟩
  rw [ek]
  simp only [laws_markMade, s0, callS_canon, callL_canon, Option.map_some, Option.bind_some, shape_one, shape_agg, shape_nil, cellsAt_0, cellsAt_1, cellsAt_2, cellsAt_3, cells_one, cells_agg, cB_zero, cI_zero, cS_zero, cC_zero, cB_cons, cI_cons, cS_cons, cC_cons, cond_true, cond_false, List.length_cons, List.length_nil, beq_self_eq_true, Bool.and_true, Bool.true_and, lenC_encL, lenC_lst, deref_ref, emptyK_nil, bs_size, bs_toList]
theorem k_laws_markByteS {H : List Entry} {w : Bool} {n : Nat} {ids : List Nat} {c : Cell} (xs : Str) (k : Nat) (hx : bdS maxLen xs) (h : Rep H w true n ids c (trL 1 trByte xs)) (hn : ids.Nodup) (hk : k + cntL one1 xs ≤ markMax) :
    ∃ H', run_laws_markByteS [.one c, .one (Cell.int (k : Int))] H = some ([.one (Cell.int ((k + cntL one1 xs : Nat) : Int))], H') ∧ Upd ids H H' ∧ Rep H' w true n ids c (trL 1 trByte (mkL mkByte one1 xs k)) := by
  cases n with
  | zero => exact h.elim
  | succ n =>
  have hM := maxLen_eq
  have hlen := h.lenC
  rw [List.length_map] at hlen
  have hxl : xs.length ≤ maxLen := hx
  obtain ⟨H', e1, u, r⟩ := mark_loop (sz := 1) (c := c) trByte mkByte one1 xs (fun m k i H => laws_markByteS_l0 (xs.length + 1 + 1) (xs.length + 1 + 1) m c k i H) (by
    intro m i k x H trs hi hm hr hl hk h
    have h0 : Rep H w true (n + 1) ids c (.list 1 (trs.set i (trByte x))) := by rw [set_same hr]; exact h
    have hi' : i < trs.length := by omega
    have hk0 := hk
    simp only [one1] at hk
    obtain ⟨id0, p0, q0, row0, a0, d0, st0, sb0⟩ := h0.idxR hn hi'
    obtain ⟨H0, s0, u0, h1⟩ := st0 0 _ (.int .u8 ((UInt8.ofNat k).toNat : Int)) rfl
    have y0 : IntKind.i64.wrap (((k : Nat) : Int) + 1) = ((k + 1 : Nat) : Int) := wrapK (by omega)
    have ek : k + one1 x = (k + 1) := rfl
    refine ⟨H0, ?_, u0, h1⟩
    rw [ek]
    simp only [laws_markByteS_l0, hlen, Option.bind_some]
    rw [decide_eq_true (by omega), cond_true]
    simp only [a0, s0, y0, fldA_ptr, Nat.zero_add, Nat.reduceAdd, wrap_u8, callS_canon, callL_canon, Option.map_some, Option.bind_some, shape_one, shape_agg, shape_nil, cellsAt_0, cellsAt_1, cellsAt_2, cellsAt_3, cells_one, cells_agg, cB_zero, cI_zero, cS_zero, cC_zero, cB_cons, cI_cons, cS_cons, cC_cons, cond_true, cond_false, List.length_cons, List.length_nil, beq_self_eq_true, Bool.and_true, Bool.true_and, lenC_encL, lenC_lst, deref_ref, emptyK_nil, bs_size, bs_toList]
    rw [wrap_succ (by omega)]) (by
    intro m k H
    simp only [laws_markByteS_l0, hlen, Option.bind_some]
    rw [decide_eq_false (by omega), cond_false]) (xs.length + 1 + 1) k H (by omega) hk h
  exact ⟨H', run_laws_markByteS_of (xs.length + 1) (by simp only [laws_markByteS]; exact e1), u, r⟩
theorem e_laws_heldByteS (xs : Str) (k : Nat) (hx : bdS maxLen xs) (hk : k + cntL one1 xs ≤ markMax) : out run_laws_heldByteS [.one (encL 1 eByte (mkL mkByte one1 xs k)), .one (Cell.int (k : Int))] = some [.one (Cell.int ((k + cntL one1 xs : Nat) : Int))] := by
  have hM := maxLen_eq
  have hyl : (mkL mkByte one1 xs k).length ≤ maxLen := by rw [mkL_length]; exact hx
  have loop : ∀ (ys : Str) (hyl : ys.length ≤ maxLen) (r : Str) (i k n : Nat), ys.drop i = mkL mkByte one1 r k → (∀ y ∈ r, True) → r.length < n → k + cntL one1 r ≤ markMax → ∀ K m, laws_heldByteS_l0 K m n (encL 1 eByte ys) k i = some ([.one (Cell.int ((k + cntL one1 r : Nat) : Int))], []) := by
    intro ys hyl r
    induction r with
    | nil =>
      intro i k n hd hx hn hk K m
      obtain ⟨n, rfl⟩ : ∃ j, n = j + 1 := ⟨n - 1, by omega⟩
      have := drop_nil hd
      simp only [laws_heldByteS_l0, lenC_encL, Option.bind_some]
      rw [decide_eq_false (by omega), cond_false, cntL_nil, Nat.add_zero]
    | cons x r ih =>
      intro i k n hd hx hn hk K m
      obtain ⟨n, rfl⟩ : ∃ j, n = j + 1 := ⟨n - 1, by omega⟩
      obtain ⟨hlt, hg, hd'⟩ := drop_cons hd
      simp only [List.length_cons] at hn
      rw [cntL_cons, ← Nat.add_assoc] at hk ⊢
      have hk0 := hk
      have ek : k + one1 x = (k + 1) := rfl
      rw [ek] at hk hd' ⊢
      have y0 : IntKind.i64.wrap (((k : Nat) : Int) + 1) = ((k + 1 : Nat) : Int) := wrapK (by omega)
      simp only [laws_heldByteS_l0, lenC_encL, Option.bind_some, idxA_encL, hg, eByte, mkByte, wrap_u8, bne_self_eq_false, Bool.not_true, fldA_ref, Nat.zero_add, Nat.reduceAdd, y0, callS_canon, callL_canon, Option.map_some, Option.bind_some, shape_one, shape_agg, shape_nil, cellsAt_0, cellsAt_1, cellsAt_2, cellsAt_3, cells_one, cells_agg, cB_zero, cI_zero, cS_zero, cC_zero, cB_cons, cI_cons, cS_cons, cC_cons, cond_true, cond_false, List.length_cons, List.length_nil, beq_self_eq_true, Bool.and_true, Bool.true_and, lenC_encL, lenC_lst, deref_ref, emptyK_nil, bs_size, bs_toList]
      rw [decide_eq_true (by omega), cond_true, wrap_succ (by omega)]
      exact ih _ _ _ hd' (fun y hy => hx y (List.mem_cons_of_mem _ hy)) (by omega) (by omega) _ _
  refine out_of (H := []) (run_laws_heldByteS_of (xs.length + 1) ?_)
  simp only [laws_heldByteS]
  have := loop _ hyl xs 0 k (xs.length + 1 + 1) rfl (fun _ _ => trivial) (by omega) hk (xs.length + 1 + 1) (xs.length + 1 + 1)
  simp only [Int.natCast_zero] at this
  exact this
end Go.Ev
