/- What the functions come to (want). Conditions: none. -/
import Derived.Test.YtiocamjonchabaaKusedby
set_option linter.unusedSimpArgs false
set_option linter.unusedVariables false
namespace Go.Ev
open Go
def taskName (p t : Str) : Str := p ++ [35] ++ t
theorem n_spec_TaskName (p t : Str) (h1 : p.length ≤ 1073741824) (h2 : t.length ≤ 1073741824) : out run_spec_TaskName [.one (Cell.str (bs p)), .one (Cell.str (bs t))] = some [.one (Cell.str (bs (taskName p t)))] := by
  refine out_of (H := []) (run_spec_TaskName_of 0 ?_)
  have e1 : catS (bs p) (bs [35]) = some (bs (p ++ [35])) := catS_bs (by simp; omega)
  have e2 : catS (bs (p ++ [35])) (bs t) = some (bs (taskName p t)) := catS_bs (by simp; omega)
  simp only [spec_TaskName, e1, e2, callS_canon, callL_canon, Option.map_some, Option.bind_some, shape_one, shape_agg, shape_nil, cellsAt_0, cellsAt_1, cellsAt_2, cellsAt_3, cells_one, cells_agg, cB_zero, cI_zero, cS_zero, cC_zero, cB_cons, cI_cons, cS_cons, cC_cons, cond_true, cond_false, List.length_cons, List.length_nil, beq_self_eq_true, Bool.and_true, Bool.true_and, lenC_encL, lenC_lst, deref_ref, emptyK_nil, bs_size, bs_toList]
theorem n_impl_TaskName (p t : Str) (h1 : p.length ≤ 1073741824) (h2 : t.length ≤ 1073741824) : out run_impl_TaskName [.one (Cell.str (bs p)), .one (Cell.str (bs t))] = some [.one (Cell.str (bs (taskName p t)))] := by
  refine out_of (H := []) (run_impl_TaskName_of 0 ?_)
  have e1 : catS (bs p) (bs [35]) = some (bs (p ++ [35])) := catS_bs (by simp; omega)
  have e2 : catS (bs (p ++ [35])) (bs t) = some (bs (taskName p t)) := catS_bs (by simp; omega)
  simp only [impl_TaskName, e1, e2, callS_canon, callL_canon, Option.map_some, Option.bind_some, shape_one, shape_agg, shape_nil, cellsAt_0, cellsAt_1, cellsAt_2, cellsAt_3, cells_one, cells_agg, cB_zero, cI_zero, cS_zero, cC_zero, cB_cons, cI_cons, cS_cons, cC_cons, cond_true, cond_false, List.length_cons, List.length_nil, beq_self_eq_true, Bool.and_true, Bool.true_and, lenC_encL, lenC_lst, deref_ref, emptyK_nil, bs_size, bs_toList]
theorem c_spec_FindPack (l : List MPack) (hl : l.length ≤ 1073741824) (s : Str) : out run_spec_FindPack [.one (encL 4 MPack.enc l), .one (Cell.str (bs s))] = some [.one (Cell.int (idxF (fun p => p.Name == s) l 0))] := by
  have hM := maxLen_eq
  have loop : ∀ (r : List MPack) (i n : Nat), l.drop i = r → r.length < n → ∀ k m, spec_FindPack_l0 k m n (encL 4 MPack.enc l) (bs s) i = some ([.one (Cell.int (idxF (fun p => p.Name == s) r i))], []) := by
    intro r
    induction r with
    | nil =>
      intro i n hd hn k m
      obtain ⟨n, rfl⟩ : ∃ j, n = j + 1 := ⟨n - 1, by omega⟩
      have := drop_nil hd
      simp only [spec_FindPack_l0, lenC_encL, Option.bind_some]
      rw [decide_eq_false (by omega), cond_false]
      rfl
    | cons x r ih =>
      intro i n hd hn k m
      obtain ⟨n, rfl⟩ : ∃ j, n = j + 1 := ⟨n - 1, by omega⟩
      obtain ⟨hlt, hg, hd'⟩ := drop_cons hd
      simp only [List.length_cons] at hn
      simp only [spec_FindPack_l0, lenC_encL, Option.bind_some]
      rw [decide_eq_true (by omega), cond_true]
      simp only [idxA_encL, hg, MPack.enc, fldA_ref, Nat.zero_add, wrap_succ (show i < maxLen by omega), ih (i + 1) n hd' (by omega), idxF, callS_canon, callL_canon, Option.map_some, Option.bind_some, shape_one, shape_agg, shape_nil, cellsAt_0, cellsAt_1, cellsAt_2, cellsAt_3, cells_one, cells_agg, cB_zero, cI_zero, cS_zero, cC_zero, cB_cons, cI_cons, cS_cons, cC_cons, cond_true, cond_false, List.length_cons, List.length_nil, beq_self_eq_true, Bool.and_true, Bool.true_and, lenC_encL, lenC_lst, deref_ref, emptyK_nil, bs_size, bs_toList]
      cases x.Name == s <;> rfl
  refine out_of (H := []) (run_spec_FindPack_of (l.length + 1) ?_)
  have := loop l 0 (l.length + 1 + 1) rfl (by omega) (l.length + 1 + 1) (l.length + 1 + 1)
  simpa [spec_FindPack] using this
theorem c_impl_FindPack (l : List MPack) (hl : l.length ≤ 1073741824) (s : Str) : out run_impl_FindPack [.one (encL 4 MPack.enc l), .one (Cell.str (bs s))] = some [.one (Cell.int (idxF (fun p => p.Name == s) l 0))] := by
  have hM := maxLen_eq
  have hc : ∀ x : MPack, run_impl_FindPack_1 [.agg [Cell.str (bs x.Name), encL 1 eStr x.Uses, encL 2 MNeed.enc x.Needs, encL 2 MCmd.enc x.Cmds], .one (.ptr 0 1 0 0 0)] [Entry.mk 1 [[Cell.str (bs s)]] 0 false] = some ([.one (Cell.bool (x.Name == s))], [Entry.mk 1 [[Cell.str (bs s)]] 0 false]) := by
    intro x
    refine run_impl_FindPack_1_of 0 ?_
    simp [impl_FindPack_1, deref, entry?, cS]
  have loop : ∀ (r : List MPack) (i n : Nat), l.drop i = r → r.length < n → ∀ k m, slices_IndexFunc_Pack_impl_FindPack_1_l0 k m n (encL 4 MPack.enc l) (.ptr 0 1 0 0 0) l.length i [Entry.mk 1 [[Cell.str (bs s)]] 0 false] = some ([.one (Cell.int (idxF (fun p => p.Name == s) r i))], [Entry.mk 1 [[Cell.str (bs s)]] 0 false]) := by
    intro r
    induction r with
    | nil =>
      intro i n hd hn k m
      obtain ⟨n, rfl⟩ : ∃ j, n = j + 1 := ⟨n - 1, by omega⟩
      have := drop_nil hd
      simp only [slices_IndexFunc_Pack_impl_FindPack_1_l0]
      rw [decide_eq_false (by omega), cond_false]
      rfl
    | cons x r ih =>
      intro i n hd hn k m
      obtain ⟨n, rfl⟩ : ∃ j, n = j + 1 := ⟨n - 1, by omega⟩
      obtain ⟨hlt, hg, hd'⟩ := drop_cons hd
      simp only [List.length_cons] at hn
      simp only [slices_IndexFunc_Pack_impl_FindPack_1_l0, idxA_encL, hg, MPack.enc, hc, Nat.zero_add, callS_canon, callL_canon, Option.map_some, Option.bind_some, shape_one, shape_agg, shape_nil, cellsAt_0, cellsAt_1, cellsAt_2, cellsAt_3, cells_one, cells_agg, cB_zero, cI_zero, cS_zero, cC_zero, cB_cons, cI_cons, cS_cons, cC_cons, cond_true, cond_false, List.length_cons, List.length_nil, beq_self_eq_true, Bool.and_true, Bool.true_and, lenC_encL, lenC_lst, deref_ref, emptyK_nil, bs_size, bs_toList]
      rw [decide_eq_true (by omega), cond_true, wrap_succ (by omega), ih (i + 1) n hd' (by omega)]
      simp only [idxF]
      cases x.Name == s <;> rfl
  refine out_of (H := [Entry.mk 1 [[Cell.str (bs s)]] 0 false]) (run_impl_FindPack_of 0 ?_)
  have h := run_slices_IndexFunc_Pack_impl_FindPack_1_of (c1 := encL 4 MPack.enc l) (q2 := .ptr 0 1 0 0 0) (H := [Entry.mk 1 [[Cell.str (bs s)]] 0 false]) (l.length + 1) (by
    simpa [slices_IndexFunc_Pack_impl_FindPack_1] using loop l 0 (l.length + 1 + 1) rfl (by omega) (l.length + 1 + 1) (l.length + 1 + 1))
  simp only [impl_FindPack, h, callS_canon, callL_canon, Option.map_some, Option.bind_some, shape_one, shape_agg, shape_nil, cellsAt_0, cellsAt_1, cellsAt_2, cellsAt_3, cells_one, cells_agg, cB_zero, cI_zero, cS_zero, cC_zero, cB_cons, cI_cons, cS_cons, cC_cons, cond_true, cond_false, List.length_cons, List.length_nil, beq_self_eq_true, Bool.and_true, Bool.true_and, lenC_encL, lenC_lst, deref_ref, emptyK_nil, bs_size, bs_toList]
def cmdOf (l : List MPack) (p t : Str) : Option MCmd := (l.find? fun q => q.Name == p).bind fun q => q.Cmds.find? fun c => c.Task == t
def cmdV : Option MCmd → List AV
  | some c => [.agg [Cell.str (bs c.Task), encL 1 eStr c.Acts], .one (Cell.bool true)]
  | none => [.agg [Cell.str (bs []), encL 1 eStr []], .one (Cell.bool false)]
theorem c_spec_l13Cmd (l : List MPack) (hl : bdL 1048576 (MPack.Bd 1048576) l) (p t : Str) : outL run_spec_l13Cmd [.one (encL 4 MPack.enc l), .one (Cell.str (bs p)), .one (Cell.str (bs t))] = some (cmdV (cmdOf l p t)) := by
  have hM := maxLen_eq
  have hxl := hl.1
  have e0 := c_spec_FindPack l (by omega) p
  rcases idxF_find (fun q : MPack => q.Name == p) l 0 with ⟨h1, h2⟩ | ⟨j, x, h1, h2, h3⟩
  · have hm : cmdOf l p t = none := by simp [cmdOf, h2]
    rw [hm]
    refine outL_of (H := []) (xs := [.agg [Cell.str (bs []), .lst true 1 []], .one (Cell.bool false)]) (run_spec_l13Cmd_of 0 ?_) rfl
    simp only [spec_l13Cmd, e0, h1, spec_l13Cmd_l0, callS_canon, callL_canon, Option.map_some, Option.bind_some, shape_one, shape_agg, shape_nil, cellsAt_0, cellsAt_1, cellsAt_2, cellsAt_3, cells_one, cells_agg, cB_zero, cI_zero, cS_zero, cC_zero, cB_cons, cI_cons, cS_cons, cC_cons, cond_true, cond_false, List.length_cons, List.length_nil, beq_self_eq_true, Bool.and_true, Bool.true_and, lenC_encL, lenC_lst, deref_ref, emptyK_nil, bs_size, bs_toList]
    rfl
  · have hb := hl.2 x (List.mem_of_getElem? h2)
    have hcl := hb.2.2.2.1
    have hm : cmdOf l p t = x.Cmds.find? fun c => c.Task == t := by simp [cmdOf, h3]
    rw [hm]
    have hj : j < l.length := (List.getElem?_eq_some_iff.1 h2).1
    have loop : ∀ (r : List MCmd) (i n : Nat), x.Cmds.drop i = r → r.length < n → ∀ k m, ∃ ys, spec_l13Cmd_l0 k m n (encL 4 MPack.enc l) (bs t) j i = some (ys, []) ∧ mapO (reifyAV false []) ys = some (cmdV (r.find? fun c => c.Task == t)) := by
      intro r
      induction r with
      | nil =>
        intro i n hd hn k m
        obtain ⟨n, rfl⟩ : ∃ j, n = j + 1 := ⟨n - 1, by omega⟩
        have := drop_nil hd
        refine ⟨[.agg [Cell.str (bs []), .lst true 1 []], .one (Cell.bool false)], ?_, rfl⟩
        simp only [spec_l13Cmd_l0]
        rw [decide_eq_true (by omega), cond_true]
        simp only [idxA_encL, h2, MPack.enc, fldA_ref, Nat.zero_add, lenC_encL, callS_canon, callL_canon, Option.map_some, Option.bind_some, shape_one, shape_agg, shape_nil, cellsAt_0, cellsAt_1, cellsAt_2, cellsAt_3, cells_one, cells_agg, cB_zero, cI_zero, cS_zero, cC_zero, cB_cons, cI_cons, cS_cons, cC_cons, cond_true, cond_false, List.length_cons, List.length_nil, beq_self_eq_true, Bool.and_true, Bool.true_and, lenC_encL, lenC_lst, deref_ref, emptyK_nil, bs_size, bs_toList]
        rw [decide_eq_false (by omega), cond_false]
      | cons c r ih =>
        intro i n hd hn k m
        obtain ⟨n, rfl⟩ : ∃ j, n = j + 1 := ⟨n - 1, by omega⟩
        obtain ⟨hlt, hg, hd'⟩ := drop_cons hd
        simp only [List.length_cons] at hn
        simp only [spec_l13Cmd_l0]
        rw [decide_eq_true (by omega), cond_true]
        simp only [idxA_encL, h2, MPack.enc, fldA_ref, Nat.zero_add, lenC_encL, callS_canon, callL_canon, Option.map_some, Option.bind_some, shape_one, shape_agg, shape_nil, cellsAt_0, cellsAt_1, cellsAt_2, cellsAt_3, cells_one, cells_agg, cB_zero, cI_zero, cS_zero, cC_zero, cB_cons, cI_cons, cS_cons, cC_cons, cond_true, cond_false, List.length_cons, List.length_nil, beq_self_eq_true, Bool.and_true, Bool.true_and, lenC_encL, lenC_lst, deref_ref, emptyK_nil, bs_size, bs_toList]
        rw [decide_eq_true (by omega), cond_true]
        simp only [idxA_encL, h2, hg, MPack.enc, MCmd.enc, fldA_ref, Nat.zero_add, lenC_encL, wrap_succ (show i < maxLen by omega), List.find?_cons, callS_canon, callL_canon, Option.map_some, Option.bind_some, shape_one, shape_agg, shape_nil, cellsAt_0, cellsAt_1, cellsAt_2, cellsAt_3, cells_one, cells_agg, cB_zero, cI_zero, cS_zero, cC_zero, cB_cons, cI_cons, cS_cons, cC_cons, cond_true, cond_false, List.length_cons, List.length_nil, beq_self_eq_true, Bool.and_true, Bool.true_and, lenC_encL, lenC_lst, deref_ref, emptyK_nil, bs_size, bs_toList]
        cases hc : c.Task == t with
        | true => exact ⟨_, rfl, mapO_canon [.agg [Cell.str (bs c.Task), encL 1 eStr c.Acts], .one (Cell.bool true)] _ _⟩
        | false => exact ih (i + 1) n hd' (by omega) k m
    obtain ⟨ys, z1, z2⟩ := loop x.Cmds 0 (x.Cmds.length + 1 + 1) rfl (by omega) (x.Cmds.length + 1 + 1) (x.Cmds.length + 1 + 1)
    refine outL_of (H := []) (run_spec_l13Cmd_of (x.Cmds.length + 1) ?_) z2
    simp only [spec_l13Cmd, e0, h1, callS_canon, callL_canon, Option.map_some, Option.bind_some, shape_one, shape_agg, shape_nil, cellsAt_0, cellsAt_1, cellsAt_2, cellsAt_3, cells_one, cells_agg, cB_zero, cI_zero, cS_zero, cC_zero, cB_cons, cI_cons, cS_cons, cC_cons, cond_true, cond_false, List.length_cons, List.length_nil, beq_self_eq_true, Bool.and_true, Bool.true_and, lenC_encL, lenC_lst, deref_ref, emptyK_nil, bs_size, bs_toList]
    simpa using z1
theorem c_impl_cmdAt (l : List MPack) (hl : bdL 1048576 (MPack.Bd 1048576) l) (p t : Str) : outL run_impl_cmdAt [.one (encL 4 MPack.enc l), .one (Cell.str (bs p)), .one (Cell.str (bs t))] = some (cmdV (cmdOf l p t)) := by
  have hM := maxLen_eq
  have hxl := hl.1
  have e0 := c_impl_FindPack l (by omega) p
  rcases idxF_find (fun q : MPack => q.Name == p) l 0 with ⟨h1, h2⟩ | ⟨j, x, h1, h2, h3⟩
  · have hm : cmdOf l p t = none := by simp [cmdOf, h2]
    rw [hm]
    refine outL_of (H := []) (xs := [.agg [Cell.str (bs []), .lst true 1 []], .one (Cell.bool false)]) (run_impl_cmdAt_of 0 ?_) rfl
    simp only [impl_cmdAt, e0, h1, callS_canon, callL_canon, Option.map_some, Option.bind_some, shape_one, shape_agg, shape_nil, cellsAt_0, cellsAt_1, cellsAt_2, cellsAt_3, cells_one, cells_agg, cB_zero, cI_zero, cS_zero, cC_zero, cB_cons, cI_cons, cS_cons, cC_cons, cond_true, cond_false, List.length_cons, List.length_nil, beq_self_eq_true, Bool.and_true, Bool.true_and, lenC_encL, lenC_lst, deref_ref, emptyK_nil, bs_size, bs_toList]
    rfl
  · have hb := hl.2 x (List.mem_of_getElem? h2)
    have hcl := hb.2.2.2.1
    have hm : cmdOf l p t = x.Cmds.find? fun c => c.Task == t := by simp [cmdOf, h3]
    rw [hm]
    have loop : ∀ (r : List MCmd) (i n : Nat), x.Cmds.drop i = r → r.length < n → ∀ k m, ∃ ys, impl_cmdAt_l0 k m n (bs t) (encL 2 MCmd.enc x.Cmds) x.Cmds.length i = some (ys, []) ∧ mapO (reifyAV false []) ys = some (cmdV (r.find? fun c => c.Task == t)) := by
      intro r
      induction r with
      | nil =>
        intro i n hd hn k m
        obtain ⟨n, rfl⟩ : ∃ j, n = j + 1 := ⟨n - 1, by omega⟩
        have := drop_nil hd
        refine ⟨[.agg [Cell.str (bs []), .lst true 1 []], .one (Cell.bool false)], ?_, rfl⟩
        simp only [impl_cmdAt_l0]
        rw [decide_eq_false (by omega), cond_false]
      | cons c r ih =>
        intro i n hd hn k m
        obtain ⟨n, rfl⟩ : ∃ j, n = j + 1 := ⟨n - 1, by omega⟩
        obtain ⟨hlt, hg, hd'⟩ := drop_cons hd
        simp only [List.length_cons] at hn
        simp only [impl_cmdAt_l0]
        rw [decide_eq_true (by omega), cond_true]
        simp only [idxA_encL, hg, MCmd.enc, Nat.zero_add, wrap_succ (show i < maxLen by omega), List.find?_cons, callS_canon, callL_canon, Option.map_some, Option.bind_some, shape_one, shape_agg, shape_nil, cellsAt_0, cellsAt_1, cellsAt_2, cellsAt_3, cells_one, cells_agg, cB_zero, cI_zero, cS_zero, cC_zero, cB_cons, cI_cons, cS_cons, cC_cons, cond_true, cond_false, List.length_cons, List.length_nil, beq_self_eq_true, Bool.and_true, Bool.true_and, lenC_encL, lenC_lst, deref_ref, emptyK_nil, bs_size, bs_toList]
        cases hc : c.Task == t with
        | true => exact ⟨_, rfl, mapO_canon [.agg [Cell.str (bs c.Task), encL 1 eStr c.Acts], .one (Cell.bool true)] _ _⟩
        | false => exact ih (i + 1) n hd' (by omega) k m
    obtain ⟨ys, z1, z2⟩ := loop x.Cmds 0 (x.Cmds.length + 1 + 1) rfl (by omega) (x.Cmds.length + 1 + 1) (x.Cmds.length + 1 + 1)
    refine outL_of (H := []) (run_impl_cmdAt_of (x.Cmds.length + 1) ?_) z2
    simp only [impl_cmdAt, e0, h1, callS_canon, callL_canon, Option.map_some, Option.bind_some, shape_one, shape_agg, shape_nil, cellsAt_0, cellsAt_1, cellsAt_2, cellsAt_3, cells_one, cells_agg, cB_zero, cI_zero, cS_zero, cC_zero, cB_cons, cI_cons, cS_cons, cC_cons, cond_true, cond_false, List.length_cons, List.length_nil, beq_self_eq_true, Bool.and_true, Bool.true_and, lenC_encL, lenC_lst, deref_ref, emptyK_nil, bs_size, bs_toList]
    rw [decide_eq_false (by omega), cond_false, Nat.zero_add]
    simp only [idxA_encL, h2, MPack.enc, fldA_ref, Nat.zero_add, lenC_encL, callS_canon, callL_canon, Option.map_some, Option.bind_some, shape_one, shape_agg, shape_nil, cellsAt_0, cellsAt_1, cellsAt_2, cellsAt_3, cells_one, cells_agg, cB_zero, cI_zero, cS_zero, cC_zero, cB_cons, cI_cons, cS_cons, cC_cons, cond_true, cond_false, List.length_cons, List.length_nil, beq_self_eq_true, Bool.and_true, Bool.true_and, lenC_encL, lenC_lst, deref_ref, emptyK_nil, bs_size, bs_toList]
    simpa using z1
theorem c_spec_l13There (l : List MPack) (hl : bdL 1048576 (MPack.Bd 1048576) l) (p t : Str) : out run_spec_l13There [.one (encL 4 MPack.enc l), .one (Cell.str (bs p)), .one (Cell.str (bs t))] = some [.one (Cell.bool (cmdOf l p t).isSome)] := by
  refine out_of (H := []) (run_spec_l13There_of 0 ?_)
  simp only [spec_l13There, c_spec_l13Cmd l hl p t, callS_canon, callL_canon, Option.map_some, Option.bind_some, shape_one, shape_agg, shape_nil, cellsAt_0, cellsAt_1, cellsAt_2, cellsAt_3, cells_one, cells_agg, cB_zero, cI_zero, cS_zero, cC_zero, cB_cons, cI_cons, cS_cons, cC_cons, cond_true, cond_false, List.length_cons, List.length_nil, beq_self_eq_true, Bool.and_true, Bool.true_and, lenC_encL, lenC_lst, deref_ref, emptyK_nil, bs_size, bs_toList]
  cases cmdOf l p t <;> rfl
def wantN (l : List MPack) (ns : List Str) (t : Str) : List Str := (ns.filter fun p => (cmdOf l p t).isSome).map fun p => taskName p t
def m_WantOf (l : List MPack) (ns : List Str) (t : Str) : List Str := sortedU (wantN l ns t)
theorem wantN_le (l : List MPack) (ns : List Str) (t : Str) : (wantN l ns t).length ≤ ns.length := by
  simp only [wantN, List.length_map]
  exact List.length_filter_le _ _
theorem b_WantOf (l : List MPack) (hl : bdL 1048576 (MPack.Bd 1048576) l) (hw : wtL MPack.wt l ≤ 1048576) (ns : List Str) (hn : bdL 1048576 (bdS 1048576) ns) (hn' : wtL wtS ns ≤ 1048576) (t : Str) (ht : bdS 1048576 t) (ht' : bdS 1048576 t) : bdL 1048576 (bdS 1048576) (m_WantOf l ns t) := by
  refine ⟨Nat.le_trans (sortedU_le _) (Nat.le_trans (wantN_le l ns t) hn.1), fun x hx => ?_⟩
  have hx := ((sortedU_spec _).2 x).1 hx
  obtain ⟨p, hp, rfl⟩ := List.mem_map.1 hx
  have hc := (List.mem_filter.1 hp).2
  obtain ⟨c, hc⟩ := Option.isSome_iff_exists.1 hc
  simp only [cmdOf, Option.bind_eq_some_iff] at hc
  obtain ⟨q, h1, h2⟩ := hc
  have hq := List.mem_of_find?_eq_some h1
  have hcq := List.mem_of_find?_eq_some h2
  have hqn : q.Name = p := by simpa using List.find?_some h1
  have hct : c.Task = t := by simpa using List.find?_some h2
  have w1 : MPack.wt q ≤ (l.map MPack.wt).sum := sum_mem hq
  have w2 : MCmd.wt c ≤ (q.Cmds.map MCmd.wt).sum := sum_mem hcq
  have hlen : 0 < q.Cmds.length := List.length_pos_of_mem hcq
  simp only [wtL, MPack.wt, MCmd.wt, wtS] at hw w1 w2
  simp only [bdS, taskName, List.length_append, List.length_singleton]
  rw [hqn] at w1
  rw [hct] at w2
  omega
theorem cnt_WantOf (l : List MPack) (hl : bdL 1048576 (MPack.Bd 1048576) l) (hw : wtL MPack.wt l ≤ 1048576) (ns : List Str) (hn : bdL 1048576 (bdS 1048576) ns) (hn' : wtL wtS ns ≤ 1048576) (t : Str) (ht : bdS 1048576 t) (ht' : bdS 1048576 t) : cntL one1 (m_WantOf l ns t) ≤ 1099511627776 := by
  rw [cntL_one1]
  have := (b_WantOf l hl hw ns hn hn' t ht ht').1
  omega
theorem c_spec_WantOf (l : List MPack) (hl : bdL 1048576 (MPack.Bd 1048576) l) (hw : wtL MPack.wt l ≤ 1048576) (ns : List Str) (hn : bdL 1048576 (bdS 1048576) ns) (hn' : wtL wtS ns ≤ 1048576) (t : Str) (ht : bdS 1048576 t) (ht' : bdS 1048576 t) :
    outL run_spec_WantOf [.one (encL 4 MPack.enc l), .one (strsC ns), .one (Cell.str (bs t))] = some [.one (strsC (m_WantOf l ns t))] := by
  have hM := maxLen_eq
  have hxl := hl.1
  have hnl := hn.1
  have htl : t.length ≤ 1073741824 := Nat.le_trans ht (by omega)
  have hbl := wantN_le l ns t
  have loop : ∀ (r : List Str) (i n : Nat) (acc : List Str) (c : Cell) (H : List Entry), ns.drop i = r → r.length < n → acc.length ≤ i → Grow 1 c H (acc.map eStr) → acc ++ wantN l r t = wantN l ns t → ∀ k m,
      ∃ xs H', spec_WantOf_l0 k m n (encL 4 MPack.enc l) (strsC ns) (bs t) c i H = some (xs, H') ∧ mapO (reifyAV false H') xs = some [.one (strsC (m_WantOf l ns t))] := by
    intro r
    induction r with
    | nil =>
      intro i n acc c H hd hn' ha hg he k m
      obtain ⟨n, rfl⟩ : ∃ j, n = j + 1 := ⟨n - 1, by omega⟩
      have := drop_nil hd
      have he : acc = wantN l ns t := by simpa [wantN] using he
      subst he
      obtain ⟨ids, r1, r2, _⟩ := hg.rep (tr := trStr) (fun _ _ => rfl) (fun x _ H' => Sp.leaf1 _)
      obtain ⟨H1, _, e1⟩ := callL_reps (run := run_spec_Sorted) (n := 2) (by omega) (Sp.cons (a := AV.one c) (b := AT.one (trL 1 trStr (wantN l ns t))) r1 .nil)
      have e2 : callL run_spec_Sorted [.one c] H = some ([.one (strsC (m_WantOf l ns t))], H1) := by
        rw [e1]
        simp only [List.map_cons, List.map_nil, AT.av, trL_cell]
        rw [c_spec_Sorted _ (by omega)]
        rfl
      refine ⟨[.one (strsC (m_WantOf l ns t))], H1, ?_, mapO_canon _ _ _⟩
      simp only [spec_WantOf_l0, lenC_encL, Option.bind_some]
      rw [decide_eq_false (by omega), cond_false]
      simp only [e2, callS_canon, callL_canon, Option.map_some, Option.bind_some, shape_one, shape_agg, shape_nil, cellsAt_0, cellsAt_1, cellsAt_2, cellsAt_3, cells_one, cells_agg, cB_zero, cI_zero, cS_zero, cC_zero, cB_cons, cI_cons, cS_cons, cC_cons, cond_true, cond_false, List.length_cons, List.length_nil, beq_self_eq_true, Bool.and_true, Bool.true_and, lenC_encL, lenC_lst, deref_ref, emptyK_nil, bs_size, bs_toList]
    | cons x r ih =>
      intro i n acc c H hd hn' ha hg he k m
      obtain ⟨n, rfl⟩ : ∃ j, n = j + 1 := ⟨n - 1, by omega⟩
      obtain ⟨hlt, hx, hd'⟩ := drop_cons hd
      simp only [List.length_cons] at hn'
      have hb := hn.2 x (List.mem_of_getElem? hx)
      simp only [spec_WantOf_l0, lenC_encL, Option.bind_some]
      rw [decide_eq_true (by omega), cond_true]
      simp only [idxA_encL, hx, eStr, c_spec_l13There l hl x t, n_spec_TaskName x t (Nat.le_trans hb (by omega)) htl, wrap_succ (show i < maxLen by omega), callS_canon, callL_canon, Option.map_some, Option.bind_some, shape_one, shape_agg, shape_nil, cellsAt_0, cellsAt_1, cellsAt_2, cellsAt_3, cells_one, cells_agg, cB_zero, cI_zero, cS_zero, cC_zero, cB_cons, cI_cons, cS_cons, cC_cons, cond_true, cond_false, List.length_cons, List.length_nil, beq_self_eq_true, Bool.and_true, Bool.true_and, lenC_encL, lenC_lst, deref_ref, emptyK_nil, bs_size, bs_toList]
      cases hc : (cmdOf l x t).isSome with
      | false =>
        rw [cond_false]
        exact ih (i + 1) n acc c H hd' (by omega) (by omega) hg (by rw [← he]; simp only [wantN, List.filter_cons, hc]; rfl) k m
      | true =>
        rw [cond_true]
        obtain ⟨q, e1, e2⟩ := hg.app (by' := 16) [[Cell.str (bs (taskName x t))]] (by unfold bound; simp; omega) (by unfold bound; simp; omega)
        simp only [e1, Option.bind_some]
        exact ih (i + 1) n (acc ++ [taskName x t]) q.1 q.2 hd' (by omega) (by simp; omega) (by simpa [eStr] using e2) (by rw [← he]; simp only [wantN, List.filter_cons, hc, if_true, List.map_cons, List.append_assoc, List.singleton_append]) k m
  obtain ⟨xs, H', z1, z2⟩ := loop ns 0 (ns.length + 1 + 1) [] (.lst true 1 []) [] rfl (by omega) (by simp) (Grow.nil 1) (by simp) (ns.length + 1 + 1) (ns.length + 1 + 1)
  refine outL_of (H := H') (run_spec_WantOf_of (ns.length + 1) ?_) z2
  simpa [spec_WantOf] using z1
theorem f_impl_WantOf (l : List MPack) (hl : bdL 1048576 (MPack.Bd 1048576) l) (hw : wtL MPack.wt l ≤ 1048576) (ns : List Str) (hn : bdL 1048576 (bdS 1048576) ns) (hn' : wtL wtS ns ≤ 1048576) (t : Str) (ht : bdS 1048576 t) (ht' : bdS 1048576 t) :
    Fresh run_impl_WantOf true 2 [.one (encL 4 MPack.enc l), .one (strsC ns), .one (Cell.str (bs t))] [.one (trL 1 trStr (m_WantOf l ns t))] := by
  have hM := maxLen_eq
  have hxl := hl.1
  have hnl := hn.1
  have htl : t.length ≤ 1073741824 := Nat.le_trans ht (by omega)
  have hbl := wantN_le l ns t
  have loop : ∀ (r : List Str) (i n : Nat) (acc : List Str) (c : Cell) (H : List Entry), ns.drop i = r → r.length < n → acc.length ≤ i → Grow 1 c H (acc.map eStr) → acc ++ wantN l r t = wantN l ns t → ∀ k m,
      ∃ c' H' ids, impl_WantOf_l0 k m n (encL 4 MPack.enc l) (bs t) c (strsC ns) ns.length i H = some ([.one c'], H') ∧ Rep H' true true 2 ids c' (trL 1 trStr (m_WantOf l ns t)) ∧ ids.Nodup := by
    intro r
    induction r with
    | nil =>
      intro i n acc c H hd hn' ha hg he k m
      obtain ⟨n, rfl⟩ : ∃ j, n = j + 1 := ⟨n - 1, by omega⟩
      have := drop_nil hd
      have he : acc = wantN l ns t := by simpa [wantN] using he
      subst he
      obtain ⟨c', E, ids, e1, r1, w1, _⟩ := freshO (f_impl_Sorted (wantN l ns t) (by omega)) H hg.read
      refine ⟨c', H ++ E, ids, ?_, r1, w1.nd⟩
      simp only [impl_WantOf_l0]
      rw [decide_eq_false (by omega), cond_false]
      simp only [e1, callS_canon, callL_canon, Option.map_some, Option.bind_some, shape_one, shape_agg, shape_nil, cellsAt_0, cellsAt_1, cellsAt_2, cellsAt_3, cells_one, cells_agg, cB_zero, cI_zero, cS_zero, cC_zero, cB_cons, cI_cons, cS_cons, cC_cons, cond_true, cond_false, List.length_cons, List.length_nil, beq_self_eq_true, Bool.and_true, Bool.true_and, lenC_encL, lenC_lst, deref_ref, emptyK_nil, bs_size, bs_toList]
    | cons x r ih =>
      intro i n acc c H hd hn' ha hg he k m
      obtain ⟨n, rfl⟩ : ∃ j, n = j + 1 := ⟨n - 1, by omega⟩
      obtain ⟨hlt, hx, hd'⟩ := drop_cons hd
      simp only [List.length_cons] at hn'
      have hb := hn.2 x (List.mem_of_getElem? hx)
      simp only [impl_WantOf_l0]
      rw [decide_eq_true (by omega), cond_true]
      simp only [idxA_encL, hx, eStr, c_impl_cmdAt l hl x t, n_impl_TaskName x t (Nat.le_trans hb (by omega)) htl, wrap_succ (show i < maxLen by omega), callS_canon, callL_canon, Option.map_some, Option.bind_some, shape_one, shape_agg, shape_nil, cellsAt_0, cellsAt_1, cellsAt_2, cellsAt_3, cells_one, cells_agg, cB_zero, cI_zero, cS_zero, cC_zero, cB_cons, cI_cons, cS_cons, cC_cons, cond_true, cond_false, List.length_cons, List.length_nil, beq_self_eq_true, Bool.and_true, Bool.true_and, lenC_encL, lenC_lst, deref_ref, emptyK_nil, bs_size, bs_toList]
      cases hc : cmdOf l x t with
      | none =>
        have z := ih (i + 1) n acc c H hd' (by omega) (by omega) hg (by rw [← he]; simp only [wantN, List.filter_cons, hc]; rfl) k m
        simpa only [cmdV, callS_canon, callL_canon, Option.map_some, Option.bind_some, shape_one, shape_agg, shape_nil, cellsAt_0, cellsAt_1, cellsAt_2, cellsAt_3, cells_one, cells_agg, cB_zero, cI_zero, cS_zero, cC_zero, cB_cons, cI_cons, cS_cons, cC_cons, cond_true, cond_false, List.length_cons, List.length_nil, beq_self_eq_true, Bool.and_true, Bool.true_and, lenC_encL, lenC_lst, deref_ref, emptyK_nil, bs_size, bs_toList] using z
      | some cc =>
        obtain ⟨q, e1, e2⟩ := hg.app (by' := 16) [[Cell.str (bs (taskName x t))]] (by unfold bound; simp; omega) (by unfold bound; simp; omega)
        have z := ih (i + 1) n (acc ++ [taskName x t]) q.1 q.2 hd' (by omega) (by simp; omega) (by simpa [eStr] using e2) (by rw [← he]; simp only [wantN, List.filter_cons, hc, Option.isSome_some, if_true, List.map_cons, List.append_assoc, List.singleton_append]) k m
        simpa only [cmdV, e1, callS_canon, callL_canon, Option.map_some, Option.bind_some, shape_one, shape_agg, shape_nil, cellsAt_0, cellsAt_1, cellsAt_2, cellsAt_3, cells_one, cells_agg, cB_zero, cI_zero, cS_zero, cC_zero, cB_cons, cI_cons, cS_cons, cC_cons, cond_true, cond_false, List.length_cons, List.length_nil, beq_self_eq_true, Bool.and_true, Bool.true_and, lenC_encL, lenC_lst, deref_ref, emptyK_nil, bs_size, bs_toList] using z
  obtain ⟨c', H', ids, z1, z2, z3⟩ := loop ns 0 (ns.length + 1 + 1) [] (.lst true 1 []) [] rfl (by omega) (by simp) (Grow.nil 1) (by simp) (ns.length + 1 + 1) (ns.length + 1 + 1)
  refine Fresh.one (run_impl_WantOf_of (ns.length + 1) ?_) z2 z3
  simpa [impl_WantOf] using z1

end Go.Ev
