/- What the laws' own functions come to: sizes, copies, comparisons. Conditions: none. -/
import Derived.Test.YtiocamjonchabaaDoorEvMod
import Derived.Test.YtiocamjonchabaaDoorSh1
set_option linter.unusedSimpArgs false
set_option linter.unusedVariables false
namespace Go.Ev
open Go
theorem c_laws_eqByteS (xs ys : Str) {N : Nat} (hx : bdS N xs) (hy : bdS N ys) (hN : N ≤ 1099511627776 := by omega) : out run_laws_eqByteS [.one (bytesC xs), .one (bytesC ys)] = some [.one (Cell.bool (decide (xs = ys)))] := by
  have hxl : xs.length ≤ 1099511627776 := Nat.le_trans hx hN
  have hM := maxLen_eq
  have loop : xs.length = ys.length → ∀ (us vs : Str) (i n : Nat), xs.drop i = us → ys.drop i = vs → us.length < n → ∀ k m, laws_eqByteS_l0 k m n (bytesC xs) (bytesC ys) i = some ([.one (Cell.bool (decide (us = vs)))], []) := by
    intro hlen us
    induction us with
    | nil =>
      intro vs i n hd he hn k m
      obtain ⟨n, rfl⟩ : ∃ j, n = j + 1 := ⟨n - 1, by omega⟩
      have := drop_nil hd
      have hv : vs = [] := by rw [← he]; exact List.drop_eq_nil_of_le (by omega)
      subst hv
      simp only [laws_eqByteS_l0, lenC_encL, Option.bind_some]
      rw [decide_eq_false (by omega)]
      simp
    | cons x us ih =>
      intro vs i n hd he hn k m
      obtain ⟨n, rfl⟩ : ∃ j, n = j + 1 := ⟨n - 1, by omega⟩
      obtain ⟨hlt, hgx, hd'⟩ := drop_cons hd
      cases vs with
      | nil => have := drop_nil he; omega
      | cons y vs =>
      obtain ⟨hlt', hgy, he'⟩ := drop_cons he
      simp only [List.length_cons] at hn
      simp only [laws_eqByteS_l0, idxA_encL, hgx, hgy, eByte, callS_canon, callL_canon, Option.map_some, Option.bind_some, shape_one, shape_agg, shape_nil, cellsAt_0, cellsAt_1, cellsAt_2, cellsAt_3, cells_one, cells_agg, cB_zero, cI_zero, cS_zero, cC_zero, cB_cons, cI_cons, cS_cons, cC_cons, cond_true, cond_false, List.length_cons, List.length_nil, beq_self_eq_true, Bool.and_true, Bool.true_and, lenC_encL, lenC_lst, deref_ref, emptyK_nil, bs_size, bs_toList]
      rw [decide_eq_true (by omega)]
      simp only [callS_canon, callL_canon, Option.map_some, Option.bind_some, shape_one, shape_agg, shape_nil, cellsAt_0, cellsAt_1, cellsAt_2, cellsAt_3, cells_one, cells_agg, cB_zero, cI_zero, cS_zero, cC_zero, cB_cons, cI_cons, cS_cons, cC_cons, cond_true, cond_false, List.length_cons, List.length_nil, beq_self_eq_true, Bool.and_true, Bool.true_and, lenC_encL, lenC_lst, deref_ref, emptyK_nil, bs_size, bs_toList]
      rw [wrap_succ (by omega), ih vs (i + 1) n hd' he' (by omega), condNe]
      congr 5
      rw [Bool.eq_iff_iff]
      simp only [Bool.and_eq_true, beq_iff_eq, decide_eq_true_eq, List.cons.injEq]
      have : ((x.toNat : Int) = (y.toNat : Int)) ↔ x = y := ⟨fun h => UInt8.toNat_inj.1 (by omega), fun h => by rw [h]⟩
      rw [this]
  refine out_of (H := []) (run_laws_eqByteS_of (xs.length + 1) ?_)
  simp only [laws_eqByteS, lenC_encL, Option.bind_some]
  by_cases h : xs.length = ys.length
  · rw [show (((xs.length : Nat) : Int) != (ys.length : Int)) = false by simp [h], cond_false]
    exact loop h xs ys 0 _ rfl rfl (by omega) _ _
  · rw [show (((xs.length : Nat) : Int) != (ys.length : Int)) = true by simp only [bne_iff_ne, ne_eq]; omega, cond_true]
    have : xs ≠ ys := fun e => h (by rw [e])
    simp [this]
theorem c_laws_eqFile (x y : MFile) (hx : x.Bd 1048576) (hy : y.Bd 1048576) : out run_laws_eqFile [.agg [Cell.str (bs x.Path), Cell.str (bs x.Text)], .agg [Cell.str (bs y.Path), Cell.str (bs y.Text)]] = some [.one (Cell.bool (decide (x = y)))] := by
  obtain ⟨b0, b1⟩ := hx
  obtain ⟨d0, d1⟩ := hy
  refine out_of (H := []) (run_laws_eqFile_of 0 ?_)
  simp only [laws_eqFile, callS_canon, callL_canon, Option.map_some, Option.bind_some, shape_one, shape_agg, shape_nil, cellsAt_0, cellsAt_1, cellsAt_2, cellsAt_3, cells_one, cells_agg, cB_zero, cI_zero, cS_zero, cC_zero, cB_cons, cI_cons, cS_cons, cC_cons, cond_true, cond_false, List.length_cons, List.length_nil, beq_self_eq_true, Bool.and_true, Bool.true_and, lenC_encL, lenC_lst, deref_ref, emptyK_nil, bs_size, bs_toList, condF, condNe]
  congr 5
  rw [Bool.eq_iff_iff]
  cases x; cases y
  simp [MFile.mk.injEq]
theorem c_laws_eqFileS (xs ys : List MFile) (hx : bdL 1048576 (MFile.Bd 1048576) xs) (hy : bdL 1048576 (MFile.Bd 1048576) ys) : out run_laws_eqFileS [.one (encL 2 MFile.enc xs), .one (encL 2 MFile.enc ys)] = some [.one (Cell.bool (decide (xs = ys)))] := by
  have hxl : xs.length ≤ 1048576 := hx.1
  have hM := maxLen_eq
  have loop : xs.length = ys.length → ∀ (us vs : List MFile) (i n : Nat), xs.drop i = us → ys.drop i = vs → us.length < n → ∀ k m, laws_eqFileS_l0 k m n (encL 2 MFile.enc xs) (encL 2 MFile.enc ys) i = some ([.one (Cell.bool (decide (us = vs)))], []) := by
    intro hlen us
    induction us with
    | nil =>
      intro vs i n hd he hn k m
      obtain ⟨n, rfl⟩ : ∃ j, n = j + 1 := ⟨n - 1, by omega⟩
      have := drop_nil hd
      have hv : vs = [] := by rw [← he]; exact List.drop_eq_nil_of_le (by omega)
      subst hv
      simp only [laws_eqFileS_l0, lenC_encL, Option.bind_some]
      rw [decide_eq_false (by omega)]
      simp
    | cons x us ih =>
      intro vs i n hd he hn k m
      obtain ⟨n, rfl⟩ : ∃ j, n = j + 1 := ⟨n - 1, by omega⟩
      obtain ⟨hlt, hgx, hd'⟩ := drop_cons hd
      cases vs with
      | nil => have := drop_nil he; omega
      | cons y vs =>
      obtain ⟨hlt', hgy, he'⟩ := drop_cons he
      simp only [List.length_cons] at hn
      have hbx := hx.2 x (List.mem_of_getElem? hgx)
      have hby := hy.2 y (List.mem_of_getElem? hgy)
      simp only [laws_eqFileS_l0, idxA_encL, hgx, hgy, MFile.enc, c_laws_eqFile _ _ hbx hby, callS_canon, callL_canon, Option.map_some, Option.bind_some, shape_one, shape_agg, shape_nil, cellsAt_0, cellsAt_1, cellsAt_2, cellsAt_3, cells_one, cells_agg, cB_zero, cI_zero, cS_zero, cC_zero, cB_cons, cI_cons, cS_cons, cC_cons, cond_true, cond_false, List.length_cons, List.length_nil, beq_self_eq_true, Bool.and_true, Bool.true_and, lenC_encL, lenC_lst, deref_ref, emptyK_nil, bs_size, bs_toList]
      rw [decide_eq_true (by omega)]
      simp only [callS_canon, callL_canon, Option.map_some, Option.bind_some, shape_one, shape_agg, shape_nil, cellsAt_0, cellsAt_1, cellsAt_2, cellsAt_3, cells_one, cells_agg, cB_zero, cI_zero, cS_zero, cC_zero, cB_cons, cI_cons, cS_cons, cC_cons, cond_true, cond_false, List.length_cons, List.length_nil, beq_self_eq_true, Bool.and_true, Bool.true_and, lenC_encL, lenC_lst, deref_ref, emptyK_nil, bs_size, bs_toList]
      rw [wrap_succ (by omega), ih vs (i + 1) n hd' he' (by omega), condF]
      congr 5
      rw [Bool.eq_iff_iff]
      simp
  refine out_of (H := []) (run_laws_eqFileS_of (xs.length + 1) ?_)
  simp only [laws_eqFileS, lenC_encL, Option.bind_some]
  by_cases h : xs.length = ys.length
  · rw [show (((xs.length : Nat) : Int) != (ys.length : Int)) = false by simp [h], cond_false]
    exact loop h xs ys 0 _ rfl rfl (by omega) _ _
  · rw [show (((xs.length : Nat) : Int) != (ys.length : Int)) = true by simp only [bne_iff_ne, ne_eq]; omega, cond_true]
    have : xs ≠ ys := fun e => h (by rw [e])
    simp [this]
theorem c_laws_eqMade (x y : MMade) (hx : x.Bd 1048576) (hy : y.Bd 1048576) : out run_laws_eqMade [.agg [Cell.str (bs x.Task), encL 2 MFile.enc x.Outs, Cell.str (bs x.Log)], .agg [Cell.str (bs y.Task), encL 2 MFile.enc y.Outs, Cell.str (bs y.Log)]] = some [.one (Cell.bool (decide (x = y)))] := by
  obtain ⟨b0, b1, b2⟩ := hx
  obtain ⟨d0, d1, d2⟩ := hy
  refine out_of (H := []) (run_laws_eqMade_of 0 ?_)
  simp only [laws_eqMade, c_laws_eqFileS _ _ b1 d1, callS_canon, callL_canon, Option.map_some, Option.bind_some, shape_one, shape_agg, shape_nil, cellsAt_0, cellsAt_1, cellsAt_2, cellsAt_3, cells_one, cells_agg, cB_zero, cI_zero, cS_zero, cC_zero, cB_cons, cI_cons, cS_cons, cC_cons, cond_true, cond_false, List.length_cons, List.length_nil, beq_self_eq_true, Bool.and_true, Bool.true_and, lenC_encL, lenC_lst, deref_ref, emptyK_nil, bs_size, bs_toList, condF, condNe]
  congr 5
  rw [Bool.eq_iff_iff]
  cases x; cases y
  simp [MMade.mk.injEq]
theorem c_laws_markText (k : Nat) (hk : k ≤ markMax) : out run_laws_markText [.one (Cell.int (k : Int))] = some [.one (Cell.str (bs (markB k)))] := by
  refine out_of (H := []) (run_laws_markText_of k ?_)
  by_cases h : k = 0
  · subst h
    simp [laws_markText, markB]
  · simp only [laws_markText]
    rw [decide_eq_false (by omega), cond_false, markB, if_neg h]
    refine dig_loop (fun n i s => laws_markText_l0 (k + 1) (k + 1) n i s) (fun n s => ?_) (fun n i s hi => ?_) (k + 1) k k [] (by omega) (by omega) (by simpa using hk)
    · simp [laws_markText_l0]
    · simp only [laws_markText_l0]
      rw [decide_eq_true (by omega), cond_true]
theorem k_laws_markFileS {H : List Entry} {w : Bool} {n : Nat} {ids : List Nat} {c : Cell} (xs : List MFile) (k : Nat) (hx : bdL maxLen (MFile.Bd maxLen) xs) (h : Rep H w true n ids c (trL 2 MFile.tr xs)) (hn : ids.Nodup) (hk : k + cntL MFile.cntR xs ≤ markMax) :
    ∃ H', run_laws_markFileS [.one c, .one (Cell.int (k : Int))] H = some ([.one (Cell.int ((k + cntL MFile.cntR xs : Nat) : Int))], H') ∧ Upd ids H H' ∧ Rep H' w true n ids c (trL 2 MFile.tr (mkL MFile.mkR MFile.cntR xs k)) := by
  cases n with
  | zero => exact h.elim
  | succ n =>
  have hM := maxLen_eq
  have hlen := h.lenC
  rw [List.length_map] at hlen
  have hxl : xs.length ≤ maxLen := hx.1
  obtain ⟨H', e1, u, r⟩ := mark_loop (sz := 2) (c := c) MFile.tr MFile.mkR MFile.cntR xs (fun m k i H => laws_markFileS_l0 (xs.length + 1 + 1) (xs.length + 1 + 1) m c k i H) (by
    intro m i k x H trs hi hm hr hl hk h
    have h0 : Rep H w true (n + 1) ids c (.list 2 (trs.set i (MFile.tr x))) := by rw [set_same hr]; exact h
    have hi' : i < trs.length := by omega
    have hb := hx.2 x hm
    have hk0 := hk
    simp only [MFile.cntR] at hk
    obtain ⟨id0, p0, q0, row0, a0, d0, st0, sb0⟩ := h0.idxR hn hi'
    obtain ⟨H0, s0, u0, h1⟩ := st0 0 _ (.string (bs (markB k))) rfl
    have y0 : IntKind.i64.wrap (((k : Nat) : Int) + 1) = ((k + 1 : Nat) : Int) := wrapK (by omega)
    obtain ⟨id1, p1, q1, row1, a1, d1, st1, sb1⟩ := h1.idxR hn hi'
    obtain ⟨rfl, rfl, rfl⟩ := ptr_same a0 a1
    obtain ⟨H1, s1, u1, h2⟩ := st1 1 _ (.string (bs (markB (k + 1)))) rfl
    have y1 : IntKind.i64.wrap ((((k + 1) : Nat) : Int) + 1) = (((k + 1) + 1 : Nat) : Int) := wrapK (by omega)
    have ek : k + MFile.cntR x = ((k + 1) + 1) := (by simp only [MFile.cntR] <;> omega)
    refine ⟨H1, ?_, u0.trans (u1), h2⟩
    rw [ek]
    simp only [laws_markFileS_l0, hlen, Option.bind_some]
    rw [decide_eq_true (by omega), cond_true]
    simp only [a0, s0, c_laws_markText k (by omega), y0, a1, s1, c_laws_markText (k + 1) (by omega), y1, fldA_ptr, Nat.zero_add, Nat.reduceAdd, wrap_u8, callS_canon, callL_canon, Option.map_some, Option.bind_some, shape_one, shape_agg, shape_nil, cellsAt_0, cellsAt_1, cellsAt_2, cellsAt_3, cells_one, cells_agg, cB_zero, cI_zero, cS_zero, cC_zero, cB_cons, cI_cons, cS_cons, cC_cons, cond_true, cond_false, List.length_cons, List.length_nil, beq_self_eq_true, Bool.and_true, Bool.true_and, lenC_encL, lenC_lst, deref_ref, emptyK_nil, bs_size, bs_toList]
    rw [wrap_succ (by omega)]) (by
    intro m k H
    simp only [laws_markFileS_l0, hlen, Option.bind_some]
    rw [decide_eq_false (by omega), cond_false]) (xs.length + 1 + 1) k H (by omega) hk h
  exact ⟨H', run_laws_markFileS_of (xs.length + 1) (by simp only [laws_markFileS]; exact e1), u, r⟩
theorem k_laws_markMade {H : List Entry} {w : Bool} {n : Nat} {ids : List Nat} {cs : List Cell} (x : MMade) (k : Nat) (hx : x.Bd maxLen) (h0 : Sp (Rep H w true n) ids cs x.tr) (hn : ids.Nodup) (hk : k + x.cntA ≤ markMax) :
    ∃ H', run_laws_markMade [.agg cs, .one (Cell.int (k : Int))] H = some ([.one (Cell.int ((k + x.cntA : Nat) : Int))], H') ∧ Upd ids H H' ∧ Sp (Rep H' w true n) ids cs (x.mkA k).tr := by
  obtain ⟨c1, rfl⟩ := MMade.open h0
  have hk0 := hk
  simp only [MMade.cntA] at hk
  obtain ⟨sub0, r0, nd0, bk0⟩ := Sp.field h0 hn 1 (cc := c1) rfl rfl
  obtain ⟨H0, s0, v0, z0⟩ := k_laws_markFileS (x.Outs) k (hx.2.1) r0 nd0 (by omega)
  obtain ⟨u0, h1⟩ := bk0 _ _ v0 z0
  have ek : k + x.cntA = (k + cntL MFile.cntR x.Outs) := by simp only [MMade.cntA] <;> omega
  refine ⟨H0, run_laws_markMade_of 0 ?_, u0, h1⟩
  rw [ek]
  simp only [laws_markMade, s0, callS_canon, callL_canon, Option.map_some, Option.bind_some, shape_one, shape_agg, shape_nil, cellsAt_0, cellsAt_1, cellsAt_2, cellsAt_3, cells_one, cells_agg, cB_zero, cI_zero, cS_zero, cC_zero, cB_cons, cI_cons, cS_cons, cC_cons, cond_true, cond_false, List.length_cons, List.length_nil, beq_self_eq_true, Bool.and_true, Bool.true_and, lenC_encL, lenC_lst, deref_ref, emptyK_nil, bs_size, bs_toList]
theorem k_laws_markByteS {H : List Entry} {w : Bool} {n : Nat} {ids : List Nat} {c : Cell} (xs : Str) (k : Nat) (hx : bdS maxLen xs) (h : Rep H w true n ids c (trL 1 trByte xs)) (hn : ids.Nodup) (hk : k + cntL one1 xs ≤ markMax) :
    ∃ H', run_laws_markByteS [.one c, .one (Cell.int (k : Int))] H = some ([.one (Cell.int ((k + cntL one1 xs : Nat) : Int))], H') ∧ Upd ids H H' ∧ Rep H' w true n ids c (trL 1 trByte (mkL mkByte one1 xs k)) := by
  cases n with
  | zero => exact h.elim
  | succ n =>
  have hM := maxLen_eq
  have hlen := h.lenC
  rw [List.length_map] at hlen
  have hxl : xs.length ≤ maxLen := hx
  obtain ⟨H', e1, u, r⟩ := mark_loop (sz := 1) (c := c) trByte mkByte one1 xs (fun m k i H => laws_markByteS_l0 (xs.length + 1 + 1) (xs.length + 1 + 1) m c k i H) (by
    intro m i k x H trs hi hm hr hl hk h
    have h0 : Rep H w true (n + 1) ids c (.list 1 (trs.set i (trByte x))) := by rw [set_same hr]; exact h
    have hi' : i < trs.length := by omega
    have hk0 := hk
    simp only [one1] at hk
    obtain ⟨id0, p0, q0, row0, a0, d0, st0, sb0⟩ := h0.idxR hn hi'
    obtain ⟨H0, s0, u0, h1⟩ := st0 0 _ (.int .u8 ((UInt8.ofNat k).toNat : Int)) rfl
    have y0 : IntKind.i64.wrap (((k : Nat) : Int) + 1) = ((k + 1 : Nat) : Int) := wrapK (by omega)
    have ek : k + one1 x = (k + 1) := rfl
    refine ⟨H0, ?_, u0, h1⟩
    rw [ek]
    simp only [laws_markByteS_l0, hlen, Option.bind_some]
    rw [decide_eq_true (by omega), cond_true]
    simp only [a0, s0, y0, fldA_ptr, Nat.zero_add, Nat.reduceAdd, wrap_u8, callS_canon, callL_canon, Option.map_some, Option.bind_some, shape_one, shape_agg, shape_nil, cellsAt_0, cellsAt_1, cellsAt_2, cellsAt_3, cells_one, cells_agg, cB_zero, cI_zero, cS_zero, cC_zero, cB_cons, cI_cons, cS_cons, cC_cons, cond_true, cond_false, List.length_cons, List.length_nil, beq_self_eq_true, Bool.and_true, Bool.true_and, lenC_encL, lenC_lst, deref_ref, emptyK_nil, bs_size, bs_toList]
    rw [wrap_succ (by omega)]) (by
    intro m k H
    simp only [laws_markByteS_l0, hlen, Option.bind_some]
    rw [decide_eq_false (by omega), cond_false]) (xs.length + 1 + 1) k H (by omega) hk h
  exact ⟨H', run_laws_markByteS_of (xs.length + 1) (by simp only [laws_markByteS]; exact e1), u, r⟩
theorem f_laws_toByteS (xs : Str) (hb : bdS 1048576 xs) : Fresh run_laws_toByteS true 2 [.one (bytesC xs)] [.one (trL 1 trByte xs)] := by
  have hxl : xs.length ≤ 1048576 := hb
  have hM := maxLen_eq
  refine fill_fresh (sz := 1) (n := 1) (z := [.sc (.int .u8 0)]) rfl (by intro c hc; simp only [List.mem_cons, List.not_mem_nil, or_false] at hc; rcases hc with rfl <;> rfl) trByte xs (fun m i H => laws_toByteS_l0 (xs.length + 1 + 1) (xs.length + 1 + 1) m (bytesC xs) (.vs 0 1 0 xs.length 0) i H) ?_ ?_ (xs.length + 1 + 1) (by omega) ?_
  · intro m i x H hi hm hx hg
    refine ⟨[.sc (.int .u8 (x.toNat : Int))], [], [], ?_, rfl, Sp.leaf1 _, Mine.nil (by simp), by rw [List.append_nil]; exact hg⟩
    rw [List.append_nil]
    simp only [laws_toByteS_l0, lenC_encL, Option.bind_some, idxA_encL, hx, Option.map_some, deref_ref, eByte, cI_zero]
    rw [decide_eq_true (by omega), cond_true, idxA_vs _ _ _ _ _ hi, wrap_succ (by omega)]
    rfl
  · intro m H
    simp only [laws_toByteS_l0, lenC_encL, Option.bind_some]
    rw [decide_eq_false (by omega), cond_false]
  · intro r hr
    refine run_laws_toByteS_of (xs.length + 1) ?_
    simp only [laws_toByteS, lenC_encL, Option.bind_some]
    rw [if_pos (by unfold bound; refine ⟨?_, ?_, ?_, ?_⟩ <;> omega)]
    exact hr
theorem e_laws_heldFileS (xs : List MFile) (k : Nat) (hx : bdL maxLen (MFile.Bd maxLen) xs) (hk : k + cntL MFile.cntR xs ≤ markMax) : out run_laws_heldFileS [.one (encL 2 MFile.enc (mkL MFile.mkR MFile.cntR xs k)), .one (Cell.int (k : Int))] = some [.one (Cell.int ((k + cntL MFile.cntR xs : Nat) : Int))] := by
  have hM := maxLen_eq
  have hyl : (mkL MFile.mkR MFile.cntR xs k).length ≤ maxLen := by rw [mkL_length]; exact hx.1
  have loop : ∀ (ys : List MFile) (hyl : ys.length ≤ maxLen) (r : List MFile) (i k n : Nat), ys.drop i = mkL MFile.mkR MFile.cntR r k → (∀ y ∈ r, MFile.Bd maxLen y) → r.length < n → k + cntL MFile.cntR r ≤ markMax → ∀ K m, laws_heldFileS_l0 K m n (encL 2 MFile.enc ys) k i = some ([.one (Cell.int ((k + cntL MFile.cntR r : Nat) : Int))], []) := by
    intro ys hyl r
    induction r with
    | nil =>
      intro i k n hd hx hn hk K m
      obtain ⟨n, rfl⟩ : ∃ j, n = j + 1 := ⟨n - 1, by omega⟩
      have := drop_nil hd
      simp only [laws_heldFileS_l0, lenC_encL, Option.bind_some]
      rw [decide_eq_false (by omega), cond_false, cntL_nil, Nat.add_zero]
    | cons x r ih =>
      intro i k n hd hx hn hk K m
      obtain ⟨n, rfl⟩ : ∃ j, n = j + 1 := ⟨n - 1, by omega⟩
      obtain ⟨hlt, hg, hd'⟩ := drop_cons hd
      simp only [List.length_cons] at hn
      rw [cntL_cons, ← Nat.add_assoc] at hk ⊢
      have hk0 := hk
      have hb := hx x List.mem_cons_self
      have ek : k + MFile.cntR x = ((k + 1) + 1) := (by simp only [MFile.cntR] <;> omega)
      rw [ek] at hk hd' ⊢
      have y0 : IntKind.i64.wrap (((k : Nat) : Int) + 1) = ((k + 1 : Nat) : Int) := wrapK (by omega)
      have y1 : IntKind.i64.wrap ((((k + 1) : Nat) : Int) + 1) = (((k + 1) + 1 : Nat) : Int) := wrapK (by omega)
      simp only [laws_heldFileS_l0, lenC_encL, Option.bind_some, idxA_encL, hg, MFile.enc, MFile.mkR, wrap_u8, bne_self_eq_false, Bool.not_true, fldA_ref, Nat.zero_add, Nat.reduceAdd, c_laws_markText k (by omega), y0, c_laws_markText (k + 1) (by omega), y1, callS_canon, callL_canon, Option.map_some, Option.bind_some, shape_one, shape_agg, shape_nil, cellsAt_0, cellsAt_1, cellsAt_2, cellsAt_3, cells_one, cells_agg, cB_zero, cI_zero, cS_zero, cC_zero, cB_cons, cI_cons, cS_cons, cC_cons, cond_true, cond_false, List.length_cons, List.length_nil, beq_self_eq_true, Bool.and_true, Bool.true_and, lenC_encL, lenC_lst, deref_ref, emptyK_nil, bs_size, bs_toList]
      rw [decide_eq_true (by omega), cond_true, wrap_succ (by omega)]
      exact ih _ _ _ hd' (fun y hy => hx y (List.mem_cons_of_mem _ hy)) (by omega) (by omega) _ _
  refine out_of (H := []) (run_laws_heldFileS_of (xs.length + 1) ?_)
  simp only [laws_heldFileS]
  have := loop _ hyl xs 0 k (xs.length + 1 + 1) rfl hx.2 (by omega) hk (xs.length + 1 + 1) (xs.length + 1 + 1)
  simp only [Int.natCast_zero] at this
  exact this
theorem e_laws_heldMade (x : MMade) (k : Nat) (hx : x.Bd maxLen) (hk : k + x.cntA ≤ markMax) : out run_laws_heldMade [.agg [Cell.str (bs (x.mkA k).Task), encL 2 MFile.enc (x.mkA k).Outs, Cell.str (bs (x.mkA k).Log)], .one (Cell.int (k : Int))] = some [.one (Cell.int ((k + x.cntA : Nat) : Int))] := by
  have ek : k + x.cntA = (k + cntL MFile.cntR x.Outs) := by simp only [MMade.cntA] <;> omega
  rw [ek] at hk ⊢
  have n1 : decide ((((k + cntL MFile.cntR x.Outs) : Nat) : Int) < 0) = false := decide_eq_false (by omega)
  refine out_of (H := []) (run_laws_heldMade_of 0 ?_)
  simp only [laws_heldMade, MMade.mkA, e_laws_heldFileS (x.Outs) k (hx.2.1) (by omega), n1, callS_canon, callL_canon, Option.map_some, Option.bind_some, shape_one, shape_agg, shape_nil, cellsAt_0, cellsAt_1, cellsAt_2, cellsAt_3, cells_one, cells_agg, cB_zero, cI_zero, cS_zero, cC_zero, cB_cons, cI_cons, cS_cons, cC_cons, cond_true, cond_false, List.length_cons, List.length_nil, beq_self_eq_true, Bool.and_true, Bool.true_and, lenC_encL, lenC_lst, deref_ref, emptyK_nil, bs_size, bs_toList]
end Go.Ev
