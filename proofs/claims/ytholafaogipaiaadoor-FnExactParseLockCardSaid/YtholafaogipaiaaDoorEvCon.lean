/- What the laws' own functions come to: sizes, copies, comparisons. Conditions: none. -/
import Derived.Test.YtholafaogipaiaaDoorEvMod
import Derived.Test.YtholafaogipaiaaDoorSh2
set_option linter.unusedSimpArgs false
set_option linter.unusedVariables false
namespace Go.Ev
open Go
theorem c_laws_eqStringS (xs ys : List Str) (hx : bdL 1048576 (bdS 1048576) xs) (hy : bdL 1048576 (bdS 1048576) ys) : out run_laws_eqStringS [.one (encL 1 eStr xs), .one (encL 1 eStr ys)] = some [.one (Cell.bool (decide (xs = ys)))] := by
  have hxl : xs.length ≤ 1048576 := hx.1
  have hM := maxLen_eq
  have loop : xs.length = ys.length → ∀ (us vs : List Str) (i n : Nat), xs.drop i = us → ys.drop i = vs → us.length < n → ∀ k m, laws_eqStringS_l0 k m n (encL 1 eStr xs) (encL 1 eStr ys) i = some ([.one (Cell.bool (decide (us = vs)))], []) := by
    intro hlen us
    induction us with
    | nil =>
      intro vs i n hd he hn k m
      obtain ⟨n, rfl⟩ : ∃ j, n = j + 1 := ⟨n - 1, by omega⟩
      have := drop_nil hd
      have hv : vs = [] := by rw [← he]; exact List.drop_eq_nil_of_le (by omega)
      subst hv
      simp only [laws_eqStringS_l0, lenC_encL, Option.bind_some]
      rw [decide_eq_false (by omega)]
      simp
    | cons x us ih =>
      intro vs i n hd he hn k m
      obtain ⟨n, rfl⟩ : ∃ j, n = j + 1 := ⟨n - 1, by omega⟩
      obtain ⟨hlt, hgx, hd'⟩ := drop_cons hd
      cases vs with
      | nil => have := drop_nil he; omega
      | cons y vs =>
      obtain ⟨hlt', hgy, he'⟩ := drop_cons he
      simp only [List.length_cons] at hn
      simp only [laws_eqStringS_l0, idxA_encL, hgx, hgy, eStr, callS_canon, callL_canon, Option.map_some, Option.bind_some, shape_one, shape_agg, shape_nil, cellsAt_0, cellsAt_1, cellsAt_2, cellsAt_3, cells_one, cells_agg, cB_zero, cI_zero, cS_zero, cC_zero, cB_cons, cI_cons, cS_cons, cC_cons, cond_true, cond_false, List.length_cons, List.length_nil, beq_self_eq_true, Bool.and_true, Bool.true_and, lenC_encL, lenC_lst, deref_ref, emptyK_nil, bs_size, bs_toList]
      rw [decide_eq_true (by omega)]
      simp only [callS_canon, callL_canon, Option.map_some, Option.bind_some, shape_one, shape_agg, shape_nil, cellsAt_0, cellsAt_1, cellsAt_2, cellsAt_3, cells_one, cells_agg, cB_zero, cI_zero, cS_zero, cC_zero, cB_cons, cI_cons, cS_cons, cC_cons, cond_true, cond_false, List.length_cons, List.length_nil, beq_self_eq_true, Bool.and_true, Bool.true_and, lenC_encL, lenC_lst, deref_ref, emptyK_nil, bs_size, bs_toList]
      rw [wrap_succ (by omega), ih vs (i + 1) n hd' he' (by omega), condF]
      congr 5
      rw [Bool.eq_iff_iff]
      simp
  refine out_of (H := []) (run_laws_eqStringS_of (xs.length + 1) ?_)
  simp only [laws_eqStringS, lenC_encL, Option.bind_some]
  by_cases h : xs.length = ys.length
  · rw [show (((xs.length : Nat) : Int) != (ys.length : Int)) = false by simp [h], cond_false]
    exact loop h xs ys 0 _ rfl rfl (by omega) _ _
  · rw [show (((xs.length : Nat) : Int) != (ys.length : Int)) = true by simp only [bne_iff_ne, ne_eq]; omega, cond_true]
    have : xs ≠ ys := fun e => h (by rw [e])
    simp [this]
theorem c_laws_eqVer (x y : MVer) (hx : x.Bd 1048576) (hy : y.Bd 1048576) : out run_laws_eqVer [.agg [Cell.int x.A, Cell.int x.B, Cell.int x.C, encL 1 eStr x.Pre], .agg [Cell.int y.A, Cell.int y.B, Cell.int y.C, encL 1 eStr y.Pre]] = some [.one (Cell.bool (decide (x = y)))] := by
  obtain ⟨b0, b1, b2, b3⟩ := hx
  obtain ⟨d0, d1, d2, d3⟩ := hy
  refine out_of (H := []) (run_laws_eqVer_of 0 ?_)
  simp only [laws_eqVer, c_laws_eqStringS _ _ b3 d3, callS_canon, callL_canon, Option.map_some, Option.bind_some, shape_one, shape_agg, shape_nil, cellsAt_0, cellsAt_1, cellsAt_2, cellsAt_3, cells_one, cells_agg, cB_zero, cI_zero, cS_zero, cC_zero, cB_cons, cI_cons, cS_cons, cC_cons, cond_true, cond_false, List.length_cons, List.length_nil, beq_self_eq_true, Bool.and_true, Bool.true_and, lenC_encL, lenC_lst, deref_ref, emptyK_nil, bs_size, bs_toList, condF, condNe]
  congr 5
  rw [Bool.eq_iff_iff]
  cases x; cases y
  simp [MVer.mk.injEq]
theorem c_laws_eqPick (x y : MPick) (hx : x.Bd 1048576) (hy : y.Bd 1048576) : out run_laws_eqPick [.agg [Cell.str (bs x.Name), Cell.int x.V.A, Cell.int x.V.B, Cell.int x.V.C, encL 1 eStr x.V.Pre], .agg [Cell.str (bs y.Name), Cell.int y.V.A, Cell.int y.V.B, Cell.int y.V.C, encL 1 eStr y.V.Pre]] = some [.one (Cell.bool (decide (x = y)))] := by
  obtain ⟨b0, b1⟩ := hx
  obtain ⟨d0, d1⟩ := hy
  refine out_of (H := []) (run_laws_eqPick_of 0 ?_)
  simp only [laws_eqPick, c_laws_eqVer _ _ b1 d1, callS_canon, callL_canon, Option.map_some, Option.bind_some, shape_one, shape_agg, shape_nil, cellsAt_0, cellsAt_1, cellsAt_2, cellsAt_3, cells_one, cells_agg, cB_zero, cI_zero, cS_zero, cC_zero, cB_cons, cI_cons, cS_cons, cC_cons, cond_true, cond_false, List.length_cons, List.length_nil, beq_self_eq_true, Bool.and_true, Bool.true_and, lenC_encL, lenC_lst, deref_ref, emptyK_nil, bs_size, bs_toList, condF, condNe]
  congr 5
  rw [Bool.eq_iff_iff]
  cases x; cases y
  simp [MPick.mk.injEq]
theorem c_laws_eqPickS (xs ys : List MPick) (hx : bdL 1048576 (MPick.Bd 1048576) xs) (hy : bdL 1048576 (MPick.Bd 1048576) ys) : out run_laws_eqPickS [.one (encL 5 MPick.enc xs), .one (encL 5 MPick.enc ys)] = some [.one (Cell.bool (decide (xs = ys)))] := by
  have hxl : xs.length ≤ 1048576 := hx.1
  have hM := maxLen_eq
  have loop : xs.length = ys.length → ∀ (us vs : List MPick) (i n : Nat), xs.drop i = us → ys.drop i = vs → us.length < n → ∀ k m, laws_eqPickS_l0 k m n (encL 5 MPick.enc xs) (encL 5 MPick.enc ys) i = some ([.one (Cell.bool (decide (us = vs)))], []) := by
    intro hlen us
    induction us with
    | nil =>
      intro vs i n hd he hn k m
      obtain ⟨n, rfl⟩ : ∃ j, n = j + 1 := ⟨n - 1, by omega⟩
      have := drop_nil hd
      have hv : vs = [] := by rw [← he]; exact List.drop_eq_nil_of_le (by omega)
      subst hv
      simp only [laws_eqPickS_l0, lenC_encL, Option.bind_some]
      rw [decide_eq_false (by omega)]
      simp
    | cons x us ih =>
      intro vs i n hd he hn k m
      obtain ⟨n, rfl⟩ : ∃ j, n = j + 1 := ⟨n - 1, by omega⟩
      obtain ⟨hlt, hgx, hd'⟩ := drop_cons hd
      cases vs with
      | nil => have := drop_nil he; omega
      | cons y vs =>
      obtain ⟨hlt', hgy, he'⟩ := drop_cons he
      simp only [List.length_cons] at hn
      have hbx := hx.2 x (List.mem_of_getElem? hgx)
      have hby := hy.2 y (List.mem_of_getElem? hgy)
      simp only [laws_eqPickS_l0, idxA_encL, hgx, hgy, MPick.enc, c_laws_eqPick _ _ hbx hby, callS_canon, callL_canon, Option.map_some, Option.bind_some, shape_one, shape_agg, shape_nil, cellsAt_0, cellsAt_1, cellsAt_2, cellsAt_3, cells_one, cells_agg, cB_zero, cI_zero, cS_zero, cC_zero, cB_cons, cI_cons, cS_cons, cC_cons, cond_true, cond_false, List.length_cons, List.length_nil, beq_self_eq_true, Bool.and_true, Bool.true_and, lenC_encL, lenC_lst, deref_ref, emptyK_nil, bs_size, bs_toList]
      rw [decide_eq_true (by omega)]
      simp only [callS_canon, callL_canon, Option.map_some, Option.bind_some, shape_one, shape_agg, shape_nil, cellsAt_0, cellsAt_1, cellsAt_2, cellsAt_3, cells_one, cells_agg, cB_zero, cI_zero, cS_zero, cC_zero, cB_cons, cI_cons, cS_cons, cC_cons, cond_true, cond_false, List.length_cons, List.length_nil, beq_self_eq_true, Bool.and_true, Bool.true_and, lenC_encL, lenC_lst, deref_ref, emptyK_nil, bs_size, bs_toList]
      rw [wrap_succ (by omega), ih vs (i + 1) n hd' he' (by omega), condF]
      congr 5
      rw [Bool.eq_iff_iff]
      simp
  refine out_of (H := []) (run_laws_eqPickS_of (xs.length + 1) ?_)
  simp only [laws_eqPickS, lenC_encL, Option.bind_some]
  by_cases h : xs.length = ys.length
  · rw [show (((xs.length : Nat) : Int) != (ys.length : Int)) = false by simp [h], cond_false]
    exact loop h xs ys 0 _ rfl rfl (by omega) _ _
  · rw [show (((xs.length : Nat) : Int) != (ys.length : Int)) = true by simp only [bne_iff_ne, ne_eq]; omega, cond_true]
    have : xs ≠ ys := fun e => h (by rw [e])
    simp [this]
theorem c_laws_markText (k : Nat) (hk : k ≤ markMax) : out run_laws_markText [.one (Cell.int (k : Int))] = some [.one (Cell.str (bs (markB k)))] := by
  refine out_of (H := []) (run_laws_markText_of k ?_)
  by_cases h : k = 0
  · subst h
    simp [laws_markText, markB]
  · simp only [laws_markText]
    rw [decide_eq_false (by omega), cond_false, markB, if_neg h]
    refine dig_loop (fun n i s => laws_markText_l0 (k + 1) (k + 1) n i s) (fun n s => ?_) (fun n i s hi => ?_) (k + 1) k k [] (by omega) (by omega) (by simpa using hk)
    · simp [laws_markText_l0]
    · simp only [laws_markText_l0]
      rw [decide_eq_true (by omega), cond_true]
theorem k_laws_markStringS {H : List Entry} {w : Bool} {n : Nat} {ids : List Nat} {c : Cell} (xs : List Str) (k : Nat) (hx : bdL maxLen (bdS maxLen) xs) (h : Rep H w true n ids c (trL 1 trStr xs)) (hn : ids.Nodup) (hk : k + cntL one1 xs ≤ markMax) :
    ∃ H', run_laws_markStringS [.one c, .one (Cell.int (k : Int))] H = some ([.one (Cell.int ((k + cntL one1 xs : Nat) : Int))], H') ∧ Upd ids H H' ∧ Rep H' w true n ids c (trL 1 trStr (mkL mkStr one1 xs k)) := by
  cases n with
  | zero => exact h.elim
  | succ n =>
  have hM := maxLen_eq
  have hlen := h.lenC
  rw [List.length_map] at hlen
  have hxl : xs.length ≤ maxLen := hx.1
  obtain ⟨H', e1, u, r⟩ := mark_loop (sz := 1) (c := c) trStr mkStr one1 xs (fun m k i H => laws_markStringS_l0 (xs.length + 1 + 1) (xs.length + 1 + 1) m c k i H) (by
    intro m i k x H trs hi hm hr hl hk h
    have h0 : Rep H w true (n + 1) ids c (.list 1 (trs.set i (trStr x))) := by rw [set_same hr]; exact h
    have hi' : i < trs.length := by omega
    have hk0 := hk
    simp only [one1] at hk
    obtain ⟨id0, p0, q0, row0, a0, d0, st0, sb0⟩ := h0.idxR hn hi'
    obtain ⟨H0, s0, u0, h1⟩ := st0 0 _ (.string (bs (markB k))) rfl
    have y0 : IntKind.i64.wrap (((k : Nat) : Int) + 1) = ((k + 1 : Nat) : Int) := wrapK (by omega)
    have ek : k + one1 x = (k + 1) := rfl
    refine ⟨H0, ?_, u0, h1⟩
    rw [ek]
    simp only [laws_markStringS_l0, hlen, Option.bind_some]
    rw [decide_eq_true (by omega), cond_true]
    simp only [a0, s0, c_laws_markText k (by omega), y0, fldA_ptr, Nat.zero_add, Nat.reduceAdd, wrap_u8, callS_canon, callL_canon, Option.map_some, Option.bind_some, shape_one, shape_agg, shape_nil, cellsAt_0, cellsAt_1, cellsAt_2, cellsAt_3, cells_one, cells_agg, cB_zero, cI_zero, cS_zero, cC_zero, cB_cons, cI_cons, cS_cons, cC_cons, cond_true, cond_false, List.length_cons, List.length_nil, beq_self_eq_true, Bool.and_true, Bool.true_and, lenC_encL, lenC_lst, deref_ref, emptyK_nil, bs_size, bs_toList]
    rw [wrap_succ (by omega)]) (by
    intro m k H
    simp only [laws_markStringS_l0, hlen, Option.bind_some]
    rw [decide_eq_false (by omega), cond_false]) (xs.length + 1 + 1) k H (by omega) hk h
  exact ⟨H', run_laws_markStringS_of (xs.length + 1) (by simp only [laws_markStringS]; exact e1), u, r⟩
theorem k_laws_markPickS {H : List Entry} {w : Bool} {n : Nat} {ids : List Nat} {c : Cell} (xs : List MPick) (k : Nat) (hx : bdL maxLen (MPick.Bd maxLen) xs) (h : Rep H w true n ids c (trL 5 MPick.tr xs)) (hn : ids.Nodup) (hk : k + cntL MPick.cntR xs ≤ markMax) :
    ∃ H', run_laws_markPickS [.one c, .one (Cell.int (k : Int))] H = some ([.one (Cell.int ((k + cntL MPick.cntR xs : Nat) : Int))], H') ∧ Upd ids H H' ∧ Rep H' w true n ids c (trL 5 MPick.tr (mkL MPick.mkR MPick.cntR xs k)) := by
  cases n with
  | zero => exact h.elim
  | succ n =>
  have hM := maxLen_eq
  have hlen := h.lenC
  rw [List.length_map] at hlen
  have hxl : xs.length ≤ maxLen := hx.1
  obtain ⟨H', e1, u, r⟩ := mark_loop (sz := 5) (c := c) MPick.tr MPick.mkR MPick.cntR xs (fun m k i H => laws_markPickS_l0 (xs.length + 1 + 1) (xs.length + 1 + 1) m c k i H) (by
    intro m i k x H trs hi hm hr hl hk h
    have h0 : Rep H w true (n + 1) ids c (.list 5 (trs.set i (MPick.tr x))) := by rw [set_same hr]; exact h
    have hi' : i < trs.length := by omega
    have hb := hx.2 x hm
    have hk0 := hk
    simp only [MPick.cntR] at hk
    obtain ⟨id0, p0, q0, row0, a0, d0, st0, sb0⟩ := h0.idxR hn hi'
    obtain ⟨H0, s0, u0, h1⟩ := st0 0 _ (.string (bs (markB k))) rfl
    have y0 : IntKind.i64.wrap (((k : Nat) : Int) + 1) = ((k + 1 : Nat) : Int) := wrapK (by omega)
    obtain ⟨id1, p1, q1, row1, a1, d1, st1, sb1⟩ := h1.idxR hn hi'
    obtain ⟨rfl, rfl, rfl⟩ := ptr_same a0 a1
    obtain ⟨H1, s1, u1, h2⟩ := st1 1 _ (.int .i64 (((k + 1) : Nat) : Int)) rfl
    have y1 : IntKind.i64.wrap ((((k + 1) : Nat) : Int) + 1) = (((k + 1) + 1 : Nat) : Int) := wrapK (by omega)
    obtain ⟨id2, p2, q2, row2, a2, d2, st2, sb2⟩ := h2.idxR hn hi'
    obtain ⟨rfl, rfl, rfl⟩ := ptr_same a0 a2
    obtain ⟨H2, s2, u2, h3⟩ := st2 2 _ (.int .i64 ((((k + 1) + 1) : Nat) : Int)) rfl
    have y2 : IntKind.i64.wrap (((((k + 1) + 1) : Nat) : Int) + 1) = ((((k + 1) + 1) + 1 : Nat) : Int) := wrapK (by omega)
    obtain ⟨id3, p3, q3, row3, a3, d3, st3, sb3⟩ := h3.idxR hn hi'
    obtain ⟨rfl, rfl, rfl⟩ := ptr_same a0 a3
    obtain ⟨H3, s3, u3, h4⟩ := st3 3 _ (.int .i64 (((((k + 1) + 1) + 1) : Nat) : Int)) rfl
    have y3 : IntKind.i64.wrap ((((((k + 1) + 1) + 1) : Nat) : Int) + 1) = (((((k + 1) + 1) + 1) + 1 : Nat) : Int) := wrapK (by omega)
    obtain ⟨id4, p4, q4, row4, a4, d4, st4, sb4⟩ := h4.idxR hn hi'
    obtain ⟨rfl, rfl, rfl⟩ := ptr_same a0 a4
    obtain ⟨cc4, sub4, g4, r4, nd4, bk4⟩ := sb4 4 _ rfl
    obtain ⟨H4, s4, v4, z4⟩ := k_laws_markStringS (x.V.Pre) ((((k + 1) + 1) + 1) + 1) (hb.2.2.2.2) r4 nd4 (by omega)
    obtain ⟨u4, h5⟩ := bk4 _ _ v4 z4
    have ek : k + MPick.cntR x = (((((k + 1) + 1) + 1) + 1) + cntL one1 x.V.Pre) := (by simp only [MPick.cntR] <;> omega)
    refine ⟨H4, ?_, u0.trans (u1.trans (u2.trans (u3.trans (u4)))), h5⟩
    rw [ek]
    simp only [laws_markPickS_l0, hlen, Option.bind_some]
    rw [decide_eq_true (by omega), cond_true]
    simp only [a0, s0, c_laws_markText k (by omega), y0, a1, s1, y1, a2, s2, y2, a3, s3, y3, a4, d4, g4, s4, fldA_ptr, Nat.zero_add, Nat.reduceAdd, wrap_u8, callS_canon, callL_canon, Option.map_some, Option.bind_some, shape_one, shape_agg, shape_nil, cellsAt_0, cellsAt_1, cellsAt_2, cellsAt_3, cells_one, cells_agg, cB_zero, cI_zero, cS_zero, cC_zero, cB_cons, cI_cons, cS_cons, cC_cons, cond_true, cond_false, List.length_cons, List.length_nil, beq_self_eq_true, Bool.and_true, Bool.true_and, lenC_encL, lenC_lst, deref_ref, emptyK_nil, bs_size, bs_toList]
    rw [wrap_succ (by omega)]) (by
    intro m k H
    simp only [laws_markPickS_l0, hlen, Option.bind_some]
    rw [decide_eq_false (by omega), cond_false]) (xs.length + 1 + 1) k H (by omega) hk h
  exact ⟨H', run_laws_markPickS_of (xs.length + 1) (by simp only [laws_markPickS]; exact e1), u, r⟩
theorem e_laws_heldStringS (xs : List Str) (k : Nat) (hx : bdL maxLen (bdS maxLen) xs) (hk : k + cntL one1 xs ≤ markMax) : out run_laws_heldStringS [.one (encL 1 eStr (mkL mkStr one1 xs k)), .one (Cell.int (k : Int))] = some [.one (Cell.int ((k + cntL one1 xs : Nat) : Int))] := by
  have hM := maxLen_eq
  have hyl : (mkL mkStr one1 xs k).length ≤ maxLen := by rw [mkL_length]; exact hx.1
  have loop : ∀ (ys : List Str) (hyl : ys.length ≤ maxLen) (r : List Str) (i k n : Nat), ys.drop i = mkL mkStr one1 r k → (∀ y ∈ r, True) → r.length < n → k + cntL one1 r ≤ markMax → ∀ K m, laws_heldStringS_l0 K m n (encL 1 eStr ys) k i = some ([.one (Cell.int ((k + cntL one1 r : Nat) : Int))], []) := by
    intro ys hyl r
    induction r with
    | nil =>
      intro i k n hd hx hn hk K m
      obtain ⟨n, rfl⟩ : ∃ j, n = j + 1 := ⟨n - 1, by omega⟩
      have := drop_nil hd
      simp only [laws_heldStringS_l0, lenC_encL, Option.bind_some]
      rw [decide_eq_false (by omega), cond_false, cntL_nil, Nat.add_zero]
    | cons x r ih =>
      intro i k n hd hx hn hk K m
      obtain ⟨n, rfl⟩ : ∃ j, n = j + 1 := ⟨n - 1, by omega⟩
      obtain ⟨hlt, hg, hd'⟩ := drop_cons hd
      simp only [List.length_cons] at hn
      rw [cntL_cons, ← Nat.add_assoc] at hk ⊢
      have hk0 := hk
      have ek : k + one1 x = (k + 1) := rfl
      rw [ek] at hk hd' ⊢
      have y0 : IntKind.i64.wrap (((k : Nat) : Int) + 1) = ((k + 1 : Nat) : Int) := wrapK (by omega)
      simp only [laws_heldStringS_l0, lenC_encL, Option.bind_some, idxA_encL, hg, eStr, mkStr, wrap_u8, bne_self_eq_false, Bool.not_true, fldA_ref, Nat.zero_add, Nat.reduceAdd, c_laws_markText k (by omega), y0, callS_canon, callL_canon, Option.map_some, Option.bind_some, shape_one, shape_agg, shape_nil, cellsAt_0, cellsAt_1, cellsAt_2, cellsAt_3, cells_one, cells_agg, cB_zero, cI_zero, cS_zero, cC_zero, cB_cons, cI_cons, cS_cons, cC_cons, cond_true, cond_false, List.length_cons, List.length_nil, beq_self_eq_true, Bool.and_true, Bool.true_and, lenC_encL, lenC_lst, deref_ref, emptyK_nil, bs_size, bs_toList]
      rw [decide_eq_true (by omega), cond_true, wrap_succ (by omega)]
      exact ih _ _ _ hd' (fun y hy => hx y (List.mem_cons_of_mem _ hy)) (by omega) (by omega) _ _
  refine out_of (H := []) (run_laws_heldStringS_of (xs.length + 1) ?_)
  simp only [laws_heldStringS]
  have := loop _ hyl xs 0 k (xs.length + 1 + 1) rfl (fun _ _ => trivial) (by omega) hk (xs.length + 1 + 1) (xs.length + 1 + 1)
  simp only [Int.natCast_zero] at this
  exact this
theorem e_laws_heldPickS (xs : List MPick) (k : Nat) (hx : bdL maxLen (MPick.Bd maxLen) xs) (hk : k + cntL MPick.cntR xs ≤ markMax) : out run_laws_heldPickS [.one (encL 5 MPick.enc (mkL MPick.mkR MPick.cntR xs k)), .one (Cell.int (k : Int))] = some [.one (Cell.int ((k + cntL MPick.cntR xs : Nat) : Int))] := by
  have hM := maxLen_eq
  have hyl : (mkL MPick.mkR MPick.cntR xs k).length ≤ maxLen := by rw [mkL_length]; exact hx.1
  have loop : ∀ (ys : List MPick) (hyl : ys.length ≤ maxLen) (r : List MPick) (i k n : Nat), ys.drop i = mkL MPick.mkR MPick.cntR r k → (∀ y ∈ r, MPick.Bd maxLen y) → r.length < n → k + cntL MPick.cntR r ≤ markMax → ∀ K m, laws_heldPickS_l0 K m n (encL 5 MPick.enc ys) k i = some ([.one (Cell.int ((k + cntL MPick.cntR r : Nat) : Int))], []) := by
    intro ys hyl r
    induction r with
    | nil =>
      intro i k n hd hx hn hk K m
      obtain ⟨n, rfl⟩ : ∃ j, n = j + 1 := ⟨n - 1, by omega⟩
      have := drop_nil hd
      simp only [laws_heldPickS_l0, lenC_encL, Option.bind_some]
      rw [decide_eq_false (by omega), cond_false, cntL_nil, Nat.add_zero]
    | cons x r ih =>
      intro i k n hd hx hn hk K m
      obtain ⟨n, rfl⟩ : ∃ j, n = j + 1 := ⟨n - 1, by omega⟩
      obtain ⟨hlt, hg, hd'⟩ := drop_cons hd
      simp only [List.length_cons] at hn
      rw [cntL_cons, ← Nat.add_assoc] at hk ⊢
      have hk0 := hk
      have hb := hx x List.mem_cons_self
      have ek : k + MPick.cntR x = (((((k + 1) + 1) + 1) + 1) + cntL one1 x.V.Pre) := (by simp only [MPick.cntR] <;> omega)
      rw [ek] at hk hd' ⊢
      have y0 : IntKind.i64.wrap (((k : Nat) : Int) + 1) = ((k + 1 : Nat) : Int) := wrapK (by omega)
      have y1 : IntKind.i64.wrap ((((k + 1) : Nat) : Int) + 1) = (((k + 1) + 1 : Nat) : Int) := wrapK (by omega)
      have y2 : IntKind.i64.wrap (((((k + 1) + 1) : Nat) : Int) + 1) = ((((k + 1) + 1) + 1 : Nat) : Int) := wrapK (by omega)
      have y3 : IntKind.i64.wrap ((((((k + 1) + 1) + 1) : Nat) : Int) + 1) = (((((k + 1) + 1) + 1) + 1 : Nat) : Int) := wrapK (by omega)
      have n4 : decide ((((((((k + 1) + 1) + 1) + 1) + cntL one1 x.V.Pre) : Nat) : Int) < 0) = false := decide_eq_false (by omega)
      simp only [laws_heldPickS_l0, lenC_encL, Option.bind_some, idxA_encL, hg, MPick.enc, MPick.mkR, wrap_u8, bne_self_eq_false, Bool.not_true, fldA_ref, Nat.zero_add, Nat.reduceAdd, c_laws_markText k (by omega), y0, y1, y2, y3, e_laws_heldStringS (x.V.Pre) ((((k + 1) + 1) + 1) + 1) (hb.2.2.2.2) (by omega), n4, callS_canon, callL_canon, Option.map_some, Option.bind_some, shape_one, shape_agg, shape_nil, cellsAt_0, cellsAt_1, cellsAt_2, cellsAt_3, cells_one, cells_agg, cB_zero, cI_zero, cS_zero, cC_zero, cB_cons, cI_cons, cS_cons, cC_cons, cond_true, cond_false, List.length_cons, List.length_nil, beq_self_eq_true, Bool.and_true, Bool.true_and, lenC_encL, lenC_lst, deref_ref, emptyK_nil, bs_size, bs_toList]
      rw [decide_eq_true (by omega), cond_true, wrap_succ (by omega)]
      exact ih _ _ _ hd' (fun y hy => hx y (List.mem_cons_of_mem _ hy)) (by omega) (by omega) _ _
  refine out_of (H := []) (run_laws_heldPickS_of (xs.length + 1) ?_)
  simp only [laws_heldPickS]
  have := loop _ hyl xs 0 k (xs.length + 1 + 1) rfl hx.2 (by omega) hk (xs.length + 1 + 1) (xs.length + 1 + 1)
  simp only [Int.natCast_zero] at this
  exact this
end Go.Ev
