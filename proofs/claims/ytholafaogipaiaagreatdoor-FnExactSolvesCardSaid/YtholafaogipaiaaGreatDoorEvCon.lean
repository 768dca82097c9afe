/- Conditions: none. -/
import Derived.Test.YtholafaogipaiaaGreatDoorEvMod
import Derived.Test.YtholafaogipaiaaGreatDoorSh7
set_option linter.unusedSimpArgs false
set_option linter.unusedVariables false
namespace Go.Ev
open Go
theorem c_fcd (x : MNeed) (l : Int) (hx : x.Bd maxLen) (h0 : 0 ≤ l) (h1 : l ≤ 1099511627776) : out run_fcd [.agg [Cell.str (bs x.Name), Cell.str (bs x.Range)], .one (Cell.int l)] = some [.one (Cell.int (szI x.wt l))] := by
  obtain ⟨b0, b1⟩ := hx
  have hM := maxLen_eq
  have k0 : x.Name.length ≤ maxLen := b0
  have q0 : wtS x.Name = x.Name.length := rfl
  have k1 : x.Range.length ≤ maxLen := b1
  have q1 : wtS x.Range = x.Range.length := rfl
  refine out_of (H := []) (run_fcd_of 0 ?_)
  simp only [fcd, MNeed.wt, EV0]
  rw [wrap_small (by omega) (by omega)]
  by_cases g0 : (x.Name.length : Int) ≤ l
  · rw [decide_eq_false (by omega), cond_false]
    rw [wrap_small (by omega) (by omega)]
    by_cases g1 : (x.Range.length : Int) ≤ l - (x.Name.length : Int)
    · rw [decide_eq_false (by omega), cond_false]
      first | done | rw [szI_pos (by omega)]
      first | done | (congr 5 <;> omega)
    · rw [decide_eq_true (by omega), cond_true, szI_neg (by omega)]
  · rw [decide_eq_true (by omega), cond_true, szI_neg (by omega)]
theorem c_fce (xs : List MNeed) (l : Int) (hx : bdL maxLen (MNeed.Bd maxLen) xs) (h0 : 0 ≤ l) (h1 : l ≤ 1099511627776) : out run_fce [.one (encL 2 MNeed.enc xs), .one (Cell.int l)] = some [.one (Cell.int (szI (wtL MNeed.wt xs) l))] := by
  have loop : ∀ (ys : List MNeed) (i n : Nat) (l : Int), xs.drop i = ys → ys.length < n → 0 ≤ l → l ≤ 1099511627776 → ∀ k m, fce_l0 k m n (encL 2 MNeed.enc xs) l i = some ([.one (Cell.int (szI (ys.map MNeed.wt).sum l))], []) := by
    intro ys
    induction ys with
    | nil =>
      intro i n l hd hn h0 h1 k m
      obtain ⟨n, rfl⟩ : ∃ j, n = j + 1 := ⟨n - 1, by omega⟩
      have := drop_nil hd
      simp only [fce_l0, lenC_encL, Option.bind_some]
      rw [decide_eq_false (by omega)]
      simp only [List.map_nil, List.sum_nil]
      rw [szI_zero h0, cond_false]
    | cons x ys ih =>
      intro i n l hd hn h0 h1 k m
      obtain ⟨n, rfl⟩ : ∃ j, n = j + 1 := ⟨n - 1, by omega⟩
      obtain ⟨hlt, hg, hd'⟩ := drop_cons hd
      have hxl := hx.1
      have hM := maxLen_eq
      have hb := hx.2 x (List.mem_of_getElem? hg)
      simp only [fce_l0, idxA_encL, hg, MNeed.enc, EV0]
      rw [decide_eq_true (by omega), cond_true, c_fcd _ _ hb (by omega) (by omega)]
      simp only [EV0, condSz]
      rw [wrap_succ (by omega)]
      simp only [List.map_cons, List.sum_cons]
      simp only [List.length_cons] at hn
      by_cases g : (((MNeed.wt x) : Nat) : Int) ≤ l
      · rw [if_pos g, szI_pos g, ih _ _ _ hd' (by omega) (by omega) (by omega), szI_add g]
      · rw [if_neg g, szI_over g]
  have hM := maxLen_eq
  have hxl := hx.1
  refine out_of (H := []) (run_fce_of (xs.length + 1) ?_)
  simp only [fce, lenC_encL, Option.bind_some]
  rw [wrap_small (by omega) (by omega)]
  by_cases g : (xs.length : Int) ≤ l
  · rw [decide_eq_false (by omega), cond_false]
    have := loop xs 0 (xs.length + 1 + 1) (l - xs.length) rfl (by omega) (by omega) (by omega) (xs.length + 1 + 1) (xs.length + 1 + 1)
    simp only [Int.natCast_zero] at this
    rw [this, szI_add g]
    rfl
  · rw [decide_eq_true (by omega), cond_true]
    have : szI (wtL MNeed.wt xs) l = -1 := szI_over g
    rw [this]
theorem c_fch (xs : List Str) (l : Int) (hx : bdL maxLen (bdS maxLen) xs) (h0 : 0 ≤ l) (h1 : l ≤ 1099511627776) : out run_fch [.one (encL 1 eStr xs), .one (Cell.int l)] = some [.one (Cell.int (szI (wtL wtS xs) l))] := by
  have loop : ∀ (ys : List Str) (i n : Nat) (l : Int), xs.drop i = ys → ys.length < n → 0 ≤ l → l ≤ 1099511627776 → ∀ k m, fch_l0 k m n (encL 1 eStr xs) l i = some ([.one (Cell.int (szI (ys.map wtS).sum l))], []) := by
    intro ys
    induction ys with
    | nil =>
      intro i n l hd hn h0 h1 k m
      obtain ⟨n, rfl⟩ : ∃ j, n = j + 1 := ⟨n - 1, by omega⟩
      have := drop_nil hd
      simp only [fch_l0, lenC_encL, Option.bind_some]
      rw [decide_eq_false (by omega)]
      simp only [List.map_nil, List.sum_nil]
      rw [szI_zero h0, cond_false]
    | cons x ys ih =>
      intro i n l hd hn h0 h1 k m
      obtain ⟨n, rfl⟩ : ∃ j, n = j + 1 := ⟨n - 1, by omega⟩
      obtain ⟨hlt, hg, hd'⟩ := drop_cons hd
      have hxl := hx.1
      have hM := maxLen_eq
      have hb : x.length ≤ maxLen := hx.2 x (List.mem_of_getElem? hg)
      simp only [fch_l0, lenC_encL, Option.bind_some, idxA_encL, hg, Option.map_some, deref_ref, eStr, cS_zero, bs_size]
      rw [decide_eq_true (by omega), cond_true, wrap_succ (by omega), wrap_small (by omega) (by omega)]
      simp only [List.map_cons, List.sum_cons, wtS]
      simp only [List.length_cons] at hn
      by_cases g : (x.length : Int) ≤ l
      · rw [decide_eq_false (by omega), cond_false, ih _ _ _ hd' (by omega) (by omega) (by omega), szI_add g]
      · rw [decide_eq_true (by omega), cond_true, szI_over g]
  have hM := maxLen_eq
  have hxl := hx.1
  refine out_of (H := []) (run_fch_of (xs.length + 1) ?_)
  simp only [fch, lenC_encL, Option.bind_some]
  rw [wrap_small (by omega) (by omega)]
  by_cases g : (xs.length : Int) ≤ l
  · rw [decide_eq_false (by omega), cond_false]
    have := loop xs 0 (xs.length + 1 + 1) (l - xs.length) rfl (by omega) (by omega) (by omega) (xs.length + 1 + 1) (xs.length + 1 + 1)
    simp only [Int.natCast_zero] at this
    rw [this, szI_add g]
    rfl
  · rw [decide_eq_true (by omega), cond_true]
    have : szI (wtL wtS xs) l = -1 := szI_over g
    rw [this]
theorem c_fci (x : MVer) (l : Int) (hx : x.Bd maxLen) (h0 : 0 ≤ l) (h1 : l ≤ 1099511627776) : out run_fci [.agg [Cell.int x.A, Cell.int x.B, Cell.int x.C, encL 1 eStr x.Pre], .one (Cell.int l)] = some [.one (Cell.int (szI x.wt l))] := by
  obtain ⟨b0, b1, b2, b3⟩ := hx
  have hM := maxLen_eq
  refine out_of (H := []) (run_fci_of 0 ?_)
  simp only [fci, MVer.wt, EV0]
  rw [c_fch _ _ b3 (by omega) (by omega)]
  simp only [EV0, condSz]
  by_cases g3 : ((wtL wtS x.Pre : Nat) : Int) ≤ l
  · rw [if_pos g3, szI_pos g3]
    first | done | rw [szI_pos (by omega)]
    first | done | (congr 5 <;> omega)
  · rw [if_neg g3, szI_neg (by omega)]
theorem c_fcb (x : MEntry) (l : Int) (hx : x.Bd maxLen) (h0 : 0 ≤ l) (h1 : l ≤ 1099511627776) : out run_fcb [.agg [Cell.str (bs x.Name), Cell.int x.V.A, Cell.int x.V.B, Cell.int x.V.C, encL 1 eStr x.V.Pre, encL 2 MNeed.enc x.Needs], .one (Cell.int l)] = some [.one (Cell.int (szI x.wt l))] := by
  obtain ⟨b0, b1, b2⟩ := hx
  have hM := maxLen_eq
  have k0 : x.Name.length ≤ maxLen := b0
  have q0 : wtS x.Name = x.Name.length := rfl
  refine out_of (H := []) (run_fcb_of 0 ?_)
  simp only [fcb, MEntry.wt, EV0]
  rw [wrap_small (by omega) (by omega)]
  by_cases g0 : (x.Name.length : Int) ≤ l
  · rw [decide_eq_false (by omega), cond_false]
    rw [c_fci _ _ b1 (by omega) (by omega)]
    simp only [EV0, condSz]
    by_cases g1 : ((MVer.wt x.V : Nat) : Int) ≤ l - (x.Name.length : Int)
    · rw [if_pos g1, szI_pos g1]
      rw [c_fce _ _ b2 (by omega) (by omega)]
      simp only [EV0, condSz]
      by_cases g2 : ((wtL MNeed.wt x.Needs : Nat) : Int) ≤ l - (x.Name.length : Int) - ((MVer.wt x.V : Nat) : Int)
      · rw [if_pos g2, szI_pos g2]
        first | done | rw [szI_pos (by omega)]
        first | done | (congr 5 <;> omega)
      · rw [if_neg g2, szI_neg (by omega)]
    · rw [if_neg g1, szI_neg (by omega)]
  · rw [decide_eq_true (by omega), cond_true, szI_neg (by omega)]
theorem c_fcc (xs : List MEntry) (l : Int) (hx : bdL maxLen (MEntry.Bd maxLen) xs) (h0 : 0 ≤ l) (h1 : l ≤ 1099511627776) : out run_fcc [.one (encL 6 MEntry.enc xs), .one (Cell.int l)] = some [.one (Cell.int (szI (wtL MEntry.wt xs) l))] := by
  have loop : ∀ (ys : List MEntry) (i n : Nat) (l : Int), xs.drop i = ys → ys.length < n → 0 ≤ l → l ≤ 1099511627776 → ∀ k m, fcc_l0 k m n (encL 6 MEntry.enc xs) l i = some ([.one (Cell.int (szI (ys.map MEntry.wt).sum l))], []) := by
    intro ys
    induction ys with
    | nil =>
      intro i n l hd hn h0 h1 k m
      obtain ⟨n, rfl⟩ : ∃ j, n = j + 1 := ⟨n - 1, by omega⟩
      have := drop_nil hd
      simp only [fcc_l0, lenC_encL, Option.bind_some]
      rw [decide_eq_false (by omega)]
      simp only [List.map_nil, List.sum_nil]
      rw [szI_zero h0, cond_false]
    | cons x ys ih =>
      intro i n l hd hn h0 h1 k m
      obtain ⟨n, rfl⟩ : ∃ j, n = j + 1 := ⟨n - 1, by omega⟩
      obtain ⟨hlt, hg, hd'⟩ := drop_cons hd
      have hxl := hx.1
      have hM := maxLen_eq
      have hb := hx.2 x (List.mem_of_getElem? hg)
      simp only [fcc_l0, idxA_encL, hg, MEntry.enc, EV0]
      rw [decide_eq_true (by omega), cond_true, c_fcb _ _ hb (by omega) (by omega)]
      simp only [EV0, condSz]
      rw [wrap_succ (by omega)]
      simp only [List.map_cons, List.sum_cons]
      simp only [List.length_cons] at hn
      by_cases g : (((MEntry.wt x) : Nat) : Int) ≤ l
      · rw [if_pos g, szI_pos g, ih _ _ _ hd' (by omega) (by omega) (by omega), szI_add g]
      · rw [if_neg g, szI_over g]
  have hM := maxLen_eq
  have hxl := hx.1
  refine out_of (H := []) (run_fcc_of (xs.length + 1) ?_)
  simp only [fcc, lenC_encL, Option.bind_some]
  rw [wrap_small (by omega) (by omega)]
  by_cases g : (xs.length : Int) ≤ l
  · rw [decide_eq_false (by omega), cond_false]
    have := loop xs 0 (xs.length + 1 + 1) (l - xs.length) rfl (by omega) (by omega) (by omega) (xs.length + 1 + 1) (xs.length + 1 + 1)
    simp only [Int.natCast_zero] at this
    rw [this, szI_add g]
    rfl
  · rw [decide_eq_true (by omega), cond_true]
    have : szI (wtL MEntry.wt xs) l = -1 := szI_over g
    rw [this]
theorem c_fcf (x : MPick) (l : Int) (hx : x.Bd maxLen) (h0 : 0 ≤ l) (h1 : l ≤ 1099511627776) : out run_fcf [.agg [Cell.str (bs x.Name), Cell.int x.V.A, Cell.int x.V.B, Cell.int x.V.C, encL 1 eStr x.V.Pre], .one (Cell.int l)] = some [.one (Cell.int (szI x.wt l))] := by
  obtain ⟨b0, b1⟩ := hx
  have hM := maxLen_eq
  have k0 : x.Name.length ≤ maxLen := b0
  have q0 : wtS x.Name = x.Name.length := rfl
  refine out_of (H := []) (run_fcf_of 0 ?_)
  simp only [fcf, MPick.wt, EV0]
  rw [wrap_small (by omega) (by omega)]
  by_cases g0 : (x.Name.length : Int) ≤ l
  · rw [decide_eq_false (by omega), cond_false]
    rw [c_fci _ _ b1 (by omega) (by omega)]
    simp only [EV0, condSz]
    by_cases g1 : ((MVer.wt x.V : Nat) : Int) ≤ l - (x.Name.length : Int)
    · rw [if_pos g1, szI_pos g1]
      first | done | rw [szI_pos (by omega)]
      first | done | (congr 5 <;> omega)
    · rw [if_neg g1, szI_neg (by omega)]
  · rw [decide_eq_true (by omega), cond_true, szI_neg (by omega)]
theorem c_fcg (xs : List MPick) (l : Int) (hx : bdL maxLen (MPick.Bd maxLen) xs) (h0 : 0 ≤ l) (h1 : l ≤ 1099511627776) : out run_fcg [.one (encL 5 MPick.enc xs), .one (Cell.int l)] = some [.one (Cell.int (szI (wtL MPick.wt xs) l))] := by
  have loop : ∀ (ys : List MPick) (i n : Nat) (l : Int), xs.drop i = ys → ys.length < n → 0 ≤ l → l ≤ 1099511627776 → ∀ k m, fcg_l0 k m n (encL 5 MPick.enc xs) l i = some ([.one (Cell.int (szI (ys.map MPick.wt).sum l))], []) := by
    intro ys
    induction ys with
    | nil =>
      intro i n l hd hn h0 h1 k m
      obtain ⟨n, rfl⟩ : ∃ j, n = j + 1 := ⟨n - 1, by omega⟩
      have := drop_nil hd
      simp only [fcg_l0, lenC_encL, Option.bind_some]
      rw [decide_eq_false (by omega)]
      simp only [List.map_nil, List.sum_nil]
      rw [szI_zero h0, cond_false]
    | cons x ys ih =>
      intro i n l hd hn h0 h1 k m
      obtain ⟨n, rfl⟩ : ∃ j, n = j + 1 := ⟨n - 1, by omega⟩
      obtain ⟨hlt, hg, hd'⟩ := drop_cons hd
      have hxl := hx.1
      have hM := maxLen_eq
      have hb := hx.2 x (List.mem_of_getElem? hg)
      simp only [fcg_l0, idxA_encL, hg, MPick.enc, EV0]
      rw [decide_eq_true (by omega), cond_true, c_fcf _ _ hb (by omega) (by omega)]
      simp only [EV0, condSz]
      rw [wrap_succ (by omega)]
      simp only [List.map_cons, List.sum_cons]
      simp only [List.length_cons] at hn
      by_cases g : (((MPick.wt x) : Nat) : Int) ≤ l
      · rw [if_pos g, szI_pos g, ih _ _ _ hd' (by omega) (by omega) (by omega), szI_add g]
      · rw [if_neg g, szI_over g]
  have hM := maxLen_eq
  have hxl := hx.1
  refine out_of (H := []) (run_fcg_of (xs.length + 1) ?_)
  simp only [fcg, lenC_encL, Option.bind_some]
  rw [wrap_small (by omega) (by omega)]
  by_cases g : (xs.length : Int) ≤ l
  · rw [decide_eq_false (by omega), cond_false]
    have := loop xs 0 (xs.length + 1 + 1) (l - xs.length) rfl (by omega) (by omega) (by omega) (xs.length + 1 + 1) (xs.length + 1 + 1)
    simp only [Int.natCast_zero] at this
    rw [this, szI_add g]
    rfl
  · rw [decide_eq_true (by omega), cond_true]
    have : szI (wtL MPick.wt xs) l = -1 := szI_over g
    rw [this]
theorem c_fcl (x : MNeed) (hx : x.Bd 1048576) : out run_fcl [.agg [Cell.str (bs x.Name), Cell.str (bs x.Range)]] = some [.agg [Cell.str (bs x.Name), Cell.str (bs x.Range)]] := by
  obtain ⟨b0, b1⟩ := hx
  refine out_of (H := []) (run_fcl_of 0 ?_)
  simp only [fcl, EV0]
theorem c_fcm (xs : List MNeed) (hx : bdL 1048576 (MNeed.Bd 1048576) xs) : outL run_fcm [.one (encL 2 MNeed.enc xs)] = some [.one (encL 2 MNeed.enc xs)] := by
  have hxl : xs.length ≤ 1048576 := hx.1
  have hM := maxLen_eq
  have loop : ∀ (ys : List MNeed) (i n : Nat), xs.drop i = ys → ys.length < n → ∀ k m, fcm_l0 k m n (encL 2 MNeed.enc xs) (.vs 0 2 0 xs.length 0) i [Entry.mk 2 (filled MNeed.enc [Cell.str (bs []), Cell.str (bs [])] xs i) 0 false] = some ([.one (.vs 0 2 0 xs.length 0)], [Entry.mk 2 (xs.map MNeed.enc) 0 false]) := by
    intro ys
    induction ys with
    | nil =>
      intro i n hd hn k m
      obtain ⟨n, rfl⟩ : ∃ j, n = j + 1 := ⟨n - 1, by omega⟩
      have := drop_nil hd
      simp only [fcm_l0, lenC_encL, Option.bind_some]
      rw [decide_eq_false (by omega), cond_false]
      have : filled MNeed.enc [Cell.str (bs []), Cell.str (bs [])] xs i = xs.map MNeed.enc := by simp [filled, List.take_of_length_le this, show xs.length - i = 0 by omega]
      rw [this]
    | cons x ys ih =>
      intro i n hd hn k m
      obtain ⟨n, rfl⟩ : ∃ j, n = j + 1 := ⟨n - 1, by omega⟩
      obtain ⟨hlt, hg, hd'⟩ := drop_cons hd
      simp only [List.length_cons] at hn
      have hb := hx.2 x (List.mem_of_getElem? hg)
      simp only [fcm_l0, idxA_encL, hg, MNeed.enc, c_fcl _ hb, EV0]
      rw [decide_eq_true (by omega), cond_true, idxA_vs _ _ _ _ _ hlt]
      have hs : hStore [Entry.mk 2 (filled MNeed.enc [Cell.str (bs []), Cell.str (bs [])] xs i) 0 false] (.ptr 0 2 i 0 0) (MNeed.enc x) = some [Entry.mk 2 (filled MNeed.enc [Cell.str (bs []), Cell.str (bs [])] xs (i + 1)) 0 false] := by
        rw [hStore_row (sz := 2) (filled_at MNeed.enc _ hlt) rfl rfl, filled_set MNeed.enc _ hg]
      simp only [MNeed.enc] at hs
      simp only [Option.bind_some, hs]
      rw [wrap_succ (by omega)]
      exact ih _ _ hd' (by omega) _ _
  refine outL_of (H := [Entry.mk 2 (xs.map MNeed.enc) 0 false]) (run_fcm_of (xs.length + 1) ?_) (reify_vs MNeed.enc xs 0 false)
  simp only [fcm, lenC_encL, Option.bind_some]
  rw [if_pos (by unfold bound; refine ⟨?_, ?_, ?_, ?_⟩ <;> omega)]
  have := loop xs 0 (xs.length + 1 + 1) rfl (by omega) (xs.length + 1 + 1) (xs.length + 1 + 1)
  rw [filled_zero] at this
  exact this
theorem c_fcp (xs : List Str) (hx : bdL 1048576 (bdS 1048576) xs) : outL run_fcp [.one (encL 1 eStr xs)] = some [.one (encL 1 eStr xs)] := by
  have hxl : xs.length ≤ 1048576 := hx.1
  have hM := maxLen_eq
  have loop : ∀ (ys : List Str) (i n : Nat), xs.drop i = ys → ys.length < n → ∀ k m, fcp_l0 k m n (encL 1 eStr xs) (.vs 0 1 0 xs.length 0) i [Entry.mk 1 (filled eStr [Cell.str (bs [])] xs i) 0 false] = some ([.one (.vs 0 1 0 xs.length 0)], [Entry.mk 1 (xs.map eStr) 0 false]) := by
    intro ys
    induction ys with
    | nil =>
      intro i n hd hn k m
      obtain ⟨n, rfl⟩ : ∃ j, n = j + 1 := ⟨n - 1, by omega⟩
      have := drop_nil hd
      simp only [fcp_l0, lenC_encL, Option.bind_some]
      rw [decide_eq_false (by omega), cond_false]
      have : filled eStr [Cell.str (bs [])] xs i = xs.map eStr := by simp [filled, List.take_of_length_le this, show xs.length - i = 0 by omega]
      rw [this]
    | cons x ys ih =>
      intro i n hd hn k m
      obtain ⟨n, rfl⟩ : ∃ j, n = j + 1 := ⟨n - 1, by omega⟩
      obtain ⟨hlt, hg, hd'⟩ := drop_cons hd
      simp only [List.length_cons] at hn
      simp only [fcp_l0, lenC_encL, Option.bind_some, idxA_encL, hg, Option.map_some, deref_ref, eStr, cS_zero]
      rw [decide_eq_true (by omega), cond_true, idxA_vs _ _ _ _ _ hlt]
      have hs : hStore [Entry.mk 1 (filled eStr [Cell.str (bs [])] xs i) 0 false] (.ptr 0 1 i 0 0) (eStr x) = some [Entry.mk 1 (filled eStr [Cell.str (bs [])] xs (i + 1)) 0 false] := by
        rw [hStore_row (sz := 1) (filled_at eStr _ hlt) rfl rfl, filled_set eStr _ hg]
      simp only [eStr] at hs
      simp only [Option.bind_some, hs]
      rw [wrap_succ (by omega)]
      exact ih _ _ hd' (by omega) _ _
  refine outL_of (H := [Entry.mk 1 (xs.map eStr) 0 false]) (run_fcp_of (xs.length + 1) ?_) (reify_vs eStr xs 0 false)
  simp only [fcp, lenC_encL, Option.bind_some]
  rw [if_pos (by unfold bound; refine ⟨?_, ?_, ?_, ?_⟩ <;> omega)]
  have := loop xs 0 (xs.length + 1 + 1) rfl (by omega) (xs.length + 1 + 1) (xs.length + 1 + 1)
  rw [filled_zero] at this
  exact this
theorem c_fcq (x : MVer) (hx : x.Bd 1048576) : outL run_fcq [.agg [Cell.int x.A, Cell.int x.B, Cell.int x.C, encL 1 eStr x.Pre]] = some [.agg [Cell.int x.A, Cell.int x.B, Cell.int x.C, encL 1 eStr x.Pre]] := by
  obtain ⟨b0, b1, b2, b3⟩ := hx
  refine outL_canon (H := []) (run_fcq_of 0 ?_)
  simp only [fcq, c_fcp _ b3, EV0]
theorem c_fcj (x : MEntry) (hx : x.Bd 1048576) : outL run_fcj [.agg [Cell.str (bs x.Name), Cell.int x.V.A, Cell.int x.V.B, Cell.int x.V.C, encL 1 eStr x.V.Pre, encL 2 MNeed.enc x.Needs]] = some [.agg [Cell.str (bs x.Name), Cell.int x.V.A, Cell.int x.V.B, Cell.int x.V.C, encL 1 eStr x.V.Pre, encL 2 MNeed.enc x.Needs]] := by
  obtain ⟨b0, b1, b2⟩ := hx
  refine outL_canon (H := []) (run_fcj_of 0 ?_)
  simp only [fcj, c_fcq _ b1, c_fcm _ b2, EV0]
theorem c_fck (xs : List MEntry) (hx : bdL 1048576 (MEntry.Bd 1048576) xs) : outL run_fck [.one (encL 6 MEntry.enc xs)] = some [.one (encL 6 MEntry.enc xs)] := by
  have hxl : xs.length ≤ 1048576 := hx.1
  have hM := maxLen_eq
  have loop : ∀ (ys : List MEntry) (i n : Nat), xs.drop i = ys → ys.length < n → ∀ k m, fck_l0 k m n (encL 6 MEntry.enc xs) (.vs 0 6 0 xs.length 0) i [Entry.mk 6 (filled MEntry.enc [Cell.str (bs []), Cell.int 0, Cell.int 0, Cell.int 0, .lst true 1 [], .lst true 2 []] xs i) 0 false] = some ([.one (.vs 0 6 0 xs.length 0)], [Entry.mk 6 (xs.map MEntry.enc) 0 false]) := by
    intro ys
    induction ys with
    | nil =>
      intro i n hd hn k m
      obtain ⟨n, rfl⟩ : ∃ j, n = j + 1 := ⟨n - 1, by omega⟩
      have := drop_nil hd
      simp only [fck_l0, lenC_encL, Option.bind_some]
      rw [decide_eq_false (by omega), cond_false]
      have : filled MEntry.enc [Cell.str (bs []), Cell.int 0, Cell.int 0, Cell.int 0, .lst true 1 [], .lst true 2 []] xs i = xs.map MEntry.enc := by simp [filled, List.take_of_length_le this, show xs.length - i = 0 by omega]
      rw [this]
    | cons x ys ih =>
      intro i n hd hn k m
      obtain ⟨n, rfl⟩ : ∃ j, n = j + 1 := ⟨n - 1, by omega⟩
      obtain ⟨hlt, hg, hd'⟩ := drop_cons hd
      simp only [List.length_cons] at hn
      have hb := hx.2 x (List.mem_of_getElem? hg)
      simp only [fck_l0, idxA_encL, hg, MEntry.enc, c_fcj _ hb, EV0]
      rw [decide_eq_true (by omega), cond_true, idxA_vs _ _ _ _ _ hlt]
      have hs : hStore [Entry.mk 6 (filled MEntry.enc [Cell.str (bs []), Cell.int 0, Cell.int 0, Cell.int 0, .lst true 1 [], .lst true 2 []] xs i) 0 false] (.ptr 0 6 i 0 0) (MEntry.enc x) = some [Entry.mk 6 (filled MEntry.enc [Cell.str (bs []), Cell.int 0, Cell.int 0, Cell.int 0, .lst true 1 [], .lst true 2 []] xs (i + 1)) 0 false] := by
        rw [hStore_row (sz := 6) (filled_at MEntry.enc _ hlt) rfl rfl, filled_set MEntry.enc _ hg]
      simp only [MEntry.enc] at hs
      simp only [Option.bind_some, hs]
      rw [wrap_succ (by omega)]
      exact ih _ _ hd' (by omega) _ _
  refine outL_of (H := [Entry.mk 6 (xs.map MEntry.enc) 0 false]) (run_fck_of (xs.length + 1) ?_) (reify_vs MEntry.enc xs 0 false)
  simp only [fck, lenC_encL, Option.bind_some]
  rw [if_pos (by unfold bound; refine ⟨?_, ?_, ?_, ?_⟩ <;> omega)]
  have := loop xs 0 (xs.length + 1 + 1) rfl (by omega) (xs.length + 1 + 1) (xs.length + 1 + 1)
  rw [filled_zero] at this
  exact this
theorem c_fcn (x : MPick) (hx : x.Bd 1048576) : outL run_fcn [.agg [Cell.str (bs x.Name), Cell.int x.V.A, Cell.int x.V.B, Cell.int x.V.C, encL 1 eStr x.V.Pre]] = some [.agg [Cell.str (bs x.Name), Cell.int x.V.A, Cell.int x.V.B, Cell.int x.V.C, encL 1 eStr x.V.Pre]] := by
  obtain ⟨b0, b1⟩ := hx
  refine outL_canon (H := []) (run_fcn_of 0 ?_)
  simp only [fcn, c_fcq _ b1, EV0]
theorem c_fco (xs : List MPick) (hx : bdL 1048576 (MPick.Bd 1048576) xs) : outL run_fco [.one (encL 5 MPick.enc xs)] = some [.one (encL 5 MPick.enc xs)] := by
  have hxl : xs.length ≤ 1048576 := hx.1
  have hM := maxLen_eq
  have loop : ∀ (ys : List MPick) (i n : Nat), xs.drop i = ys → ys.length < n → ∀ k m, fco_l0 k m n (encL 5 MPick.enc xs) (.vs 0 5 0 xs.length 0) i [Entry.mk 5 (filled MPick.enc [Cell.str (bs []), Cell.int 0, Cell.int 0, Cell.int 0, .lst true 1 []] xs i) 0 false] = some ([.one (.vs 0 5 0 xs.length 0)], [Entry.mk 5 (xs.map MPick.enc) 0 false]) := by
    intro ys
    induction ys with
    | nil =>
      intro i n hd hn k m
      obtain ⟨n, rfl⟩ : ∃ j, n = j + 1 := ⟨n - 1, by omega⟩
      have := drop_nil hd
      simp only [fco_l0, lenC_encL, Option.bind_some]
      rw [decide_eq_false (by omega), cond_false]
      have : filled MPick.enc [Cell.str (bs []), Cell.int 0, Cell.int 0, Cell.int 0, .lst true 1 []] xs i = xs.map MPick.enc := by simp [filled, List.take_of_length_le this, show xs.length - i = 0 by omega]
      rw [this]
    | cons x ys ih =>
      intro i n hd hn k m
      obtain ⟨n, rfl⟩ : ∃ j, n = j + 1 := ⟨n - 1, by omega⟩
      obtain ⟨hlt, hg, hd'⟩ := drop_cons hd
      simp only [List.length_cons] at hn
      have hb := hx.2 x (List.mem_of_getElem? hg)
      simp only [fco_l0, idxA_encL, hg, MPick.enc, c_fcn _ hb, EV0]
      rw [decide_eq_true (by omega), cond_true, idxA_vs _ _ _ _ _ hlt]
      have hs : hStore [Entry.mk 5 (filled MPick.enc [Cell.str (bs []), Cell.int 0, Cell.int 0, Cell.int 0, .lst true 1 []] xs i) 0 false] (.ptr 0 5 i 0 0) (MPick.enc x) = some [Entry.mk 5 (filled MPick.enc [Cell.str (bs []), Cell.int 0, Cell.int 0, Cell.int 0, .lst true 1 []] xs (i + 1)) 0 false] := by
        rw [hStore_row (sz := 5) (filled_at MPick.enc _ hlt) rfl rfl, filled_set MPick.enc _ hg]
      simp only [MPick.enc] at hs
      simp only [Option.bind_some, hs]
      rw [wrap_succ (by omega)]
      exact ih _ _ hd' (by omega) _ _
  refine outL_of (H := [Entry.mk 5 (xs.map MPick.enc) 0 false]) (run_fco_of (xs.length + 1) ?_) (reify_vs MPick.enc xs 0 false)
  simp only [fco, lenC_encL, Option.bind_some]
  rw [if_pos (by unfold bound; refine ⟨?_, ?_, ?_, ?_⟩ <;> omega)]
  have := loop xs 0 (xs.length + 1 + 1) rfl (by omega) (xs.length + 1 + 1) (xs.length + 1 + 1)
  rw [filled_zero] at this
  exact this
theorem c_fbv (x y : MNeed) (hx : x.Bd 1048576) (hy : y.Bd 1048576) : out run_fbv [.agg [Cell.str (bs x.Name), Cell.str (bs x.Range)], .agg [Cell.str (bs y.Name), Cell.str (bs y.Range)]] = some [.one (Cell.bool (decide (x = y)))] := by
  obtain ⟨b0, b1⟩ := hx
  obtain ⟨d0, d1⟩ := hy
  refine out_of (H := []) (run_fbv_of 0 ?_)
  simp only [fbv, EV0, condF, condNe]
  congr 5
  rw [Bool.eq_iff_iff]
  cases x; cases y
  simp [MNeed.mk.injEq]
theorem c_fbw (xs ys : List MNeed) (hx : bdL 1048576 (MNeed.Bd 1048576) xs) (hy : bdL 1048576 (MNeed.Bd 1048576) ys) : out run_fbw [.one (encL 2 MNeed.enc xs), .one (encL 2 MNeed.enc ys)] = some [.one (Cell.bool (decide (xs = ys)))] := by
  have hxl : xs.length ≤ 1048576 := hx.1
  have hM := maxLen_eq
  have loop : xs.length = ys.length → ∀ (us vs : List MNeed) (i n : Nat), xs.drop i = us → ys.drop i = vs → us.length < n → ∀ k m, fbw_l0 k m n (encL 2 MNeed.enc xs) (encL 2 MNeed.enc ys) i = some ([.one (Cell.bool (decide (us = vs)))], []) := by
    intro hlen us
    induction us with
    | nil =>
      intro vs i n hd he hn k m
      obtain ⟨n, rfl⟩ : ∃ j, n = j + 1 := ⟨n - 1, by omega⟩
      have := drop_nil hd
      have hv : vs = [] := by rw [← he]; exact List.drop_eq_nil_of_le (by omega)
      subst hv
      simp only [fbw_l0, lenC_encL, Option.bind_some]
      rw [decide_eq_false (by omega)]
      simp
    | cons x us ih =>
      intro vs i n hd he hn k m
      obtain ⟨n, rfl⟩ : ∃ j, n = j + 1 := ⟨n - 1, by omega⟩
      obtain ⟨hlt, hgx, hd'⟩ := drop_cons hd
      cases vs with
      | nil => have := drop_nil he; omega
      | cons y vs =>
      obtain ⟨hlt', hgy, he'⟩ := drop_cons he
      simp only [List.length_cons] at hn
      have hbx := hx.2 x (List.mem_of_getElem? hgx)
      have hby := hy.2 y (List.mem_of_getElem? hgy)
      simp only [fbw_l0, idxA_encL, hgx, hgy, MNeed.enc, c_fbv _ _ hbx hby, EV0]
      rw [decide_eq_true (by omega)]
      simp only [EV0]
      rw [wrap_succ (by omega), ih vs (i + 1) n hd' he' (by omega), condF]
      congr 5
      rw [Bool.eq_iff_iff]
      simp
  refine out_of (H := []) (run_fbw_of (xs.length + 1) ?_)
  simp only [fbw, lenC_encL, Option.bind_some]
  by_cases h : xs.length = ys.length
  · rw [show (((xs.length : Nat) : Int) != (ys.length : Int)) = false by simp [h], cond_false]
    exact loop h xs ys 0 _ rfl rfl (by omega) _ _
  · rw [show (((xs.length : Nat) : Int) != (ys.length : Int)) = true by simp only [bne_iff_ne, ne_eq]; omega, cond_true]
    have : xs ≠ ys := fun e => h (by rw [e])
    simp [this]
theorem c_fbz (xs ys : List Str) (hx : bdL 1048576 (bdS 1048576) xs) (hy : bdL 1048576 (bdS 1048576) ys) : out run_fbz [.one (encL 1 eStr xs), .one (encL 1 eStr ys)] = some [.one (Cell.bool (decide (xs = ys)))] := by
  have hxl : xs.length ≤ 1048576 := hx.1
  have hM := maxLen_eq
  have loop : xs.length = ys.length → ∀ (us vs : List Str) (i n : Nat), xs.drop i = us → ys.drop i = vs → us.length < n → ∀ k m, fbz_l0 k m n (encL 1 eStr xs) (encL 1 eStr ys) i = some ([.one (Cell.bool (decide (us = vs)))], []) := by
    intro hlen us
    induction us with
    | nil =>
      intro vs i n hd he hn k m
      obtain ⟨n, rfl⟩ : ∃ j, n = j + 1 := ⟨n - 1, by omega⟩
      have := drop_nil hd
      have hv : vs = [] := by rw [← he]; exact List.drop_eq_nil_of_le (by omega)
      subst hv
      simp only [fbz_l0, lenC_encL, Option.bind_some]
      rw [decide_eq_false (by omega)]
      simp
    | cons x us ih =>
      intro vs i n hd he hn k m
      obtain ⟨n, rfl⟩ : ∃ j, n = j + 1 := ⟨n - 1, by omega⟩
      obtain ⟨hlt, hgx, hd'⟩ := drop_cons hd
      cases vs with
      | nil => have := drop_nil he; omega
      | cons y vs =>
      obtain ⟨hlt', hgy, he'⟩ := drop_cons he
      simp only [List.length_cons] at hn
      simp only [fbz_l0, idxA_encL, hgx, hgy, eStr, EV0]
      rw [decide_eq_true (by omega)]
      simp only [EV0]
      rw [wrap_succ (by omega), ih vs (i + 1) n hd' he' (by omega), condF]
      congr 5
      rw [Bool.eq_iff_iff]
      simp
  refine out_of (H := []) (run_fbz_of (xs.length + 1) ?_)
  simp only [fbz, lenC_encL, Option.bind_some]
  by_cases h : xs.length = ys.length
  · rw [show (((xs.length : Nat) : Int) != (ys.length : Int)) = false by simp [h], cond_false]
    exact loop h xs ys 0 _ rfl rfl (by omega) _ _
  · rw [show (((xs.length : Nat) : Int) != (ys.length : Int)) = true by simp only [bne_iff_ne, ne_eq]; omega, cond_true]
    have : xs ≠ ys := fun e => h (by rw [e])
    simp [this]
theorem c_fca (x y : MVer) (hx : x.Bd 1048576) (hy : y.Bd 1048576) : out run_fca [.agg [Cell.int x.A, Cell.int x.B, Cell.int x.C, encL 1 eStr x.Pre], .agg [Cell.int y.A, Cell.int y.B, Cell.int y.C, encL 1 eStr y.Pre]] = some [.one (Cell.bool (decide (x = y)))] := by
  obtain ⟨b0, b1, b2, b3⟩ := hx
  obtain ⟨d0, d1, d2, d3⟩ := hy
  refine out_of (H := []) (run_fca_of 0 ?_)
  simp only [fca, c_fbz _ _ b3 d3, EV0, condF, condNe]
  congr 5
  rw [Bool.eq_iff_iff]
  cases x; cases y
  simp [MVer.mk.injEq]
theorem c_fbt (x y : MEntry) (hx : x.Bd 1048576) (hy : y.Bd 1048576) : out run_fbt [.agg [Cell.str (bs x.Name), Cell.int x.V.A, Cell.int x.V.B, Cell.int x.V.C, encL 1 eStr x.V.Pre, encL 2 MNeed.enc x.Needs], .agg [Cell.str (bs y.Name), Cell.int y.V.A, Cell.int y.V.B, Cell.int y.V.C, encL 1 eStr y.V.Pre, encL 2 MNeed.enc y.Needs]] = some [.one (Cell.bool (decide (x = y)))] := by
  obtain ⟨b0, b1, b2⟩ := hx
  obtain ⟨d0, d1, d2⟩ := hy
  refine out_of (H := []) (run_fbt_of 0 ?_)
  simp only [fbt, c_fca _ _ b1 d1, c_fbw _ _ b2 d2, EV0, condF, condNe]
  congr 5
  rw [Bool.eq_iff_iff]
  cases x; cases y
  simp [MEntry.mk.injEq]
theorem c_fbu (xs ys : List MEntry) (hx : bdL 1048576 (MEntry.Bd 1048576) xs) (hy : bdL 1048576 (MEntry.Bd 1048576) ys) : out run_fbu [.one (encL 6 MEntry.enc xs), .one (encL 6 MEntry.enc ys)] = some [.one (Cell.bool (decide (xs = ys)))] := by
  have hxl : xs.length ≤ 1048576 := hx.1
  have hM := maxLen_eq
  have loop : xs.length = ys.length → ∀ (us vs : List MEntry) (i n : Nat), xs.drop i = us → ys.drop i = vs → us.length < n → ∀ k m, fbu_l0 k m n (encL 6 MEntry.enc xs) (encL 6 MEntry.enc ys) i = some ([.one (Cell.bool (decide (us = vs)))], []) := by
    intro hlen us
    induction us with
    | nil =>
      intro vs i n hd he hn k m
      obtain ⟨n, rfl⟩ : ∃ j, n = j + 1 := ⟨n - 1, by omega⟩
      have := drop_nil hd
      have hv : vs = [] := by rw [← he]; exact List.drop_eq_nil_of_le (by omega)
      subst hv
      simp only [fbu_l0, lenC_encL, Option.bind_some]
      rw [decide_eq_false (by omega)]
      simp
    | cons x us ih =>
      intro vs i n hd he hn k m
      obtain ⟨n, rfl⟩ : ∃ j, n = j + 1 := ⟨n - 1, by omega⟩
      obtain ⟨hlt, hgx, hd'⟩ := drop_cons hd
      cases vs with
      | nil => have := drop_nil he; omega
      | cons y vs =>
      obtain ⟨hlt', hgy, he'⟩ := drop_cons he
      simp only [List.length_cons] at hn
      have hbx := hx.2 x (List.mem_of_getElem? hgx)
      have hby := hy.2 y (List.mem_of_getElem? hgy)
      simp only [fbu_l0, idxA_encL, hgx, hgy, MEntry.enc, c_fbt _ _ hbx hby, EV0]
      rw [decide_eq_true (by omega)]
      simp only [EV0]
      rw [wrap_succ (by omega), ih vs (i + 1) n hd' he' (by omega), condF]
      congr 5
      rw [Bool.eq_iff_iff]
      simp
  refine out_of (H := []) (run_fbu_of (xs.length + 1) ?_)
  simp only [fbu, lenC_encL, Option.bind_some]
  by_cases h : xs.length = ys.length
  · rw [show (((xs.length : Nat) : Int) != (ys.length : Int)) = false by simp [h], cond_false]
    exact loop h xs ys 0 _ rfl rfl (by omega) _ _
  · rw [show (((xs.length : Nat) : Int) != (ys.length : Int)) = true by simp only [bne_iff_ne, ne_eq]; omega, cond_true]
    have : xs ≠ ys := fun e => h (by rw [e])
    simp [this]
theorem c_fbx (x y : MPick) (hx : x.Bd 1048576) (hy : y.Bd 1048576) : out run_fbx [.agg [Cell.str (bs x.Name), Cell.int x.V.A, Cell.int x.V.B, Cell.int x.V.C, encL 1 eStr x.V.Pre], .agg [Cell.str (bs y.Name), Cell.int y.V.A, Cell.int y.V.B, Cell.int y.V.C, encL 1 eStr y.V.Pre]] = some [.one (Cell.bool (decide (x = y)))] := by
  obtain ⟨b0, b1⟩ := hx
  obtain ⟨d0, d1⟩ := hy
  refine out_of (H := []) (run_fbx_of 0 ?_)
  simp only [fbx, c_fca _ _ b1 d1, EV0, condF, condNe]
  congr 5
  rw [Bool.eq_iff_iff]
  cases x; cases y
  simp [MPick.mk.injEq]
theorem c_fby (xs ys : List MPick) (hx : bdL 1048576 (MPick.Bd 1048576) xs) (hy : bdL 1048576 (MPick.Bd 1048576) ys) : out run_fby [.one (encL 5 MPick.enc xs), .one (encL 5 MPick.enc ys)] = some [.one (Cell.bool (decide (xs = ys)))] := by
  have hxl : xs.length ≤ 1048576 := hx.1
  have hM := maxLen_eq
  have loop : xs.length = ys.length → ∀ (us vs : List MPick) (i n : Nat), xs.drop i = us → ys.drop i = vs → us.length < n → ∀ k m, fby_l0 k m n (encL 5 MPick.enc xs) (encL 5 MPick.enc ys) i = some ([.one (Cell.bool (decide (us = vs)))], []) := by
    intro hlen us
    induction us with
    | nil =>
      intro vs i n hd he hn k m
      obtain ⟨n, rfl⟩ : ∃ j, n = j + 1 := ⟨n - 1, by omega⟩
      have := drop_nil hd
      have hv : vs = [] := by rw [← he]; exact List.drop_eq_nil_of_le (by omega)
      subst hv
      simp only [fby_l0, lenC_encL, Option.bind_some]
      rw [decide_eq_false (by omega)]
      simp
    | cons x us ih =>
      intro vs i n hd he hn k m
      obtain ⟨n, rfl⟩ : ∃ j, n = j + 1 := ⟨n - 1, by omega⟩
      obtain ⟨hlt, hgx, hd'⟩ := drop_cons hd
      cases vs with
      | nil => have := drop_nil he; omega
      | cons y vs =>
      obtain ⟨hlt', hgy, he'⟩ := drop_cons he
      simp only [List.length_cons] at hn
      have hbx := hx.2 x (List.mem_of_getElem? hgx)
      have hby := hy.2 y (List.mem_of_getElem? hgy)
      simp only [fby_l0, idxA_encL, hgx, hgy, MPick.enc, c_fbx _ _ hbx hby, EV0]
      rw [decide_eq_true (by omega)]
      simp only [EV0]
      rw [wrap_succ (by omega), ih vs (i + 1) n hd' he' (by omega), condF]
      congr 5
      rw [Bool.eq_iff_iff]
      simp
  refine out_of (H := []) (run_fby_of (xs.length + 1) ?_)
  simp only [fby, lenC_encL, Option.bind_some]
  by_cases h : xs.length = ys.length
  · rw [show (((xs.length : Nat) : Int) != (ys.length : Int)) = false by simp [h], cond_false]
    exact loop h xs ys 0 _ rfl rfl (by omega) _ _
  · rw [show (((xs.length : Nat) : Int) != (ys.length : Int)) = true by simp only [bne_iff_ne, ne_eq]; omega, cond_true]
    have : xs ≠ ys := fun e => h (by rw [e])
    simp [this]
end Go.Ev
